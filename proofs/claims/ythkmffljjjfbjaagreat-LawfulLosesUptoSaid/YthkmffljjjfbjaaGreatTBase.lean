import Derived.Test.YthkmffljjjfbjaaGreatH1
import Derived.Test.YthkmffljjjfbjaaGreatChecked
namespace Go.Proofs
open Go.Gb Go.RowKit
structure bH where
 op:Int
 n:Int
 s:ByteArray
 key:ByteArray
 args:(List bH)
mutual
def pQ:bH->List Tree
 |⟨f0,f1,f2,f3,f4⟩=>[.sc (.int .i64 f0),.sc (.int .i64 f1),.sc (.string f2),.sc (.string f3),.sl (qV f4)]
def qV:List bH->List (List Tree)
 |[]=>[]
 |x::xs=>pQ x::qV xs
end
theorem qW:∀l:List bH,qV l=l.map pQ
 |[]=>rfl
 |x::xs=>by rw[qV,qW xs];rfl
theorem SG(x:bH):pQ x=[.sc (.int .i64 x.op),.sc (.int .i64 x.n),.sc (.string x.s),.sc (.string x.key),.sl (x.args.map pQ)]:=by cases x;simp only[pQ,qW]
structure ax where
 x0:Int
 y0:Int
 x1:Int
 y1:Int
 deriving DecidableEq,Inhabited
def Gp(x:ax):List Tree:=[.sc (.int .i64 x.x0),.sc (.int .i64 x.y0),.sc (.int .i64 x.x1),.sc (.int .i64 x.y1)]
structure fU where
 id:Int
 owner:Int
 area:(List ax)
 from_:(List Int)
 deriving DecidableEq,Inhabited
def IW(x:fU):List Tree:=[.sc (.int .i64 x.id),.sc (.int .i64 x.owner),.sl (x.area.map Gp),.sl (x.from_.map (λ y=>[.sc (.int .i64 y)]))]
structure aC where
 bm:Int
 bx:Int
 bk:Int
 bu:Int
 cP:Int
 cz:Int
 use:Int
 units:Int
 extra:Bool
 deriving DecidableEq,Inhabited
def Gq(x:aC):List Tree:=[.sc (.int .i64 x.bm),.sc (.int .i64 x.bx),.sc (.int .i64 x.bk),.sc (.int .i64 x.bu),.sc (.int .i64 x.cP),.sc (.int .i64 x.cz),.sc (.int .i64 x.use),.sc (.int .i64 x.units),.sc (.bool x.extra)]
structure bL where
 name:ByteArray
 n:Int
 deriving DecidableEq,Inhabited
def E9(x:bL):List Tree:=[.sc (.string x.name),.sc (.int .i64 x.n)]
structure bU where
 az:(List aC)
 gives:(List bL)
 deriving DecidableEq,Inhabited
def SH(x:bU):List Tree:=[.sl (x.az.map Gq),.sl (x.gives.map E9)]
structure aP where
 lot:Int
 phases:(List bU)
 deriving DecidableEq,Inhabited
def acQ(x:aP):List Tree:=[.sc (.int .i64 x.lot),.sl (x.phases.map SH)]
structure At where
 m7:Int
 m5:Int
 m6:Int
 m4:Int
 z0:Int
 z1:Int
 deriving DecidableEq,Inhabited
def ajJ(x:At):List Tree:=[.sc (.int .i64 x.m7),.sc (.int .i64 x.m5),.sc (.int .i64 x.m6),.sc (.int .i64 x.m4),.sc (.int .i64 x.z0),.sc (.int .i64 x.z1)]
structure aL where
 from_:Int
 to:Int
 deriving DecidableEq,Inhabited
def Xs(x:aL):List Tree:=[.sc (.int .i64 x.from_),.sc (.int .i64 x.to)]
structure bM where
 x0:Int
 x1:Int
 column:(List aL)
 deriving DecidableEq,Inhabited
def ag9(x:bM):List Tree:=[.sc (.int .i64 x.x0),.sc (.int .i64 x.x1),.sl (x.column.map Xs)]
structure dn where
 x:Int
 y:Int
 deriving DecidableEq,Inhabited
def SK(x:dn):List Tree:=[.sc (.int .i64 x.x),.sc (.int .i64 x.y)]
structure fM where
 name:ByteArray
 load:Int
 limit:Int
 corners:(List dn)
 deriving DecidableEq,Inhabited
def SL(x:fM):List Tree:=[.sc (.string x.name),.sc (.int .i64 x.load),.sc (.int .i64 x.limit),.sl (x.corners.map SK)]
structure eH where
 name:ByteArray
 gR:Int
 kB:Int
 jp:ByteArray
 gz:ByteArray
 ed:(List bH)
def Cc(x:eH):List Tree:=[.sc (.string x.name),.sc (.int .i64 x.gR),.sc (.int .i64 x.kB),.sc (.string x.jp),.sc (.string x.gz),.sl (x.ed.map pQ)]
structure bS where
 name:ByteArray
 rows:(List bL)
 p7:Int
 deriving DecidableEq,Inhabited
def Fa(x:bS):List Tree:=[.sc (.string x.name),.sl (x.rows.map E9),.sc (.int .i64 x.p7)]
structure dH where
 name:ByteArray
 overlay:Bool
 corners:(List dn)
 deriving DecidableEq,Inhabited
def Kb(x:dH):List Tree:=[.sc (.string x.name),.sc (.bool x.overlay),.sl (x.corners.map SK)]
structure aO where
 name:ByteArray
 zones:(List ByteArray)
 except:(List ByteArray)
 from_:Int
 i6:Int
 vi:Int
 vary:Bool
 kind:Int
 j7:Int
 lr:Int
 lp:ByteArray
 ik:ByteArray
 fj:(List bH)
 gi:Int
 gj:Int
 il:Int
 io:Int
 uses:Int
 other:Int
 n:Int
def vo(x:aO):List Tree:=[.sc (.string x.name),.sl (x.zones.map (λ y=>[.sc (.string y)])),.sl (x.except.map (λ y=>[.sc (.string y)])),.sc (.int .i64 x.from_),.sc (.int .i64 x.i6),.sc (.int .i64 x.vi),.sc (.bool x.vary),.sc (.int .i64 x.kind),.sc (.int .i64 x.j7),.sc (.int .i64 x.lr),.sc (.string x.lp),.sc (.string x.ik),.sl (x.fj.map pQ),.sc (.int .i64 x.gi),.sc (.int .i64 x.gj),.sc (.int .i64 x.il),.sc (.int .i64 x.io),.sc (.int .i64 x.uses),.sc (.int .i64 x.other),.sc (.int .i64 x.n)]
structure bO where
 x:Int
 y:Int
 z:Int
 deriving DecidableEq,Inhabited
def vV(x:bO):List Tree:=[.sc (.int .i64 x.x),.sc (.int .i64 x.y),.sc (.int .i64 x.z)]
structure eD where
 name:ByteArray
 vp:Int
 vn:Int
 vm:Int
 least:Int
 targets:(List bO)
 deriving DecidableEq,Inhabited
def Kc(x:eD):List Tree:=[.sc (.string x.name),.sc (.int .i64 x.vp),.sc (.int .i64 x.vn),.sc (.int .i64 x.vm),.sc (.int .i64 x.least),.sl (x.targets.map vV)]
structure bZ where
 defs:(List eH)
 tables:(List bS)
 zones:(List dH)
 rules:(List aO)
 caps:(List fM)
 views:(List eD)
 ta:(List bO)
 hours:Int
def aix(x:bZ):List Tree:=[.sl (x.defs.map Cc),.sl (x.tables.map Fa),.sl (x.zones.map Kb),.sl (x.rules.map vo),.sl (x.caps.map SL),.sl (x.views.map Kc),.sl (x.ta.map vV),.sc (.int .i64 x.hours)]
structure iY where
 kO:Int
 oy:Int
 li:Int
 sR:Int
 deriving DecidableEq,Inhabited
def aiy(x:iY):List Tree:=[.sc (.int .i64 x.kO),.sc (.int .i64 x.oy),.sc (.int .i64 x.li),.sc (.int .i64 x.sR)]
structure lV where
 lot:Int
 area:(List ax)
 top:Int
 deriving DecidableEq,Inhabited
def Fb(x:lV):List Tree:=[.sc (.int .i64 x.lot),.sl (x.area.map Gp),.sc (.int .i64 x.top)]
structure Ql where
 lot:Int
 Fk:Int
 Fi:Int
 Fc:Int
 deriving DecidableEq,Inhabited
def ME(x:Ql):List Tree:=[.sc (.int .i64 x.lot),.sc (.int .i64 x.Fk),.sc (.int .i64 x.Fi),.sc (.int .i64 x.Fc)]
structure cO where
 lot:Int
 d7:Int
 d5:Int
 d6:Int
 dE:Int
 kq:Int
 km:Int
 eC:Int
 k8:Int
 k9:Bool
 deriving DecidableEq,Inhabited
def MF(x:cO):List Tree:=[.sc (.int .i64 x.lot),.sc (.int .i64 x.d7),.sc (.int .i64 x.d5),.sc (.int .i64 x.d6),.sc (.int .i64 x.dE),.sc (.int .i64 x.kq),.sc (.int .i64 x.km),.sc (.int .i64 x.eC),.sc (.int .i64 x.k8),.sc (.bool x.k9)]
structure dS where
 ci:(List eH)
 b7:(List bS)
 b8:(List dH)
 aE:(List aO)
 cm:(List fM)
 cd:(List eD)
 cw:(List bO)
 cg:Int
 land:(List fU)
 b9:(List lV)
 windows:(List Ql)
 built:(List cO)
 base:(List bL)
def Gr(x:dS):List Tree:=[.sl (x.ci.map Cc),.sl (x.b7.map Fa),.sl (x.b8.map Kb),.sl (x.aE.map vo),.sl (x.cm.map SL),.sl (x.cd.map Kc),.sl (x.cw.map vV),.sc (.int .i64 x.cg),.sl (x.land.map IW),.sl (x.b9.map Fb),.sl (x.windows.map ME),.sl (x.built.map MF),.sl (x.base.map E9)]
structure kX where
 eM:(List eH)
 ej:(List bS)
 er:(List dH)
 ey:(List aO)
 eQ:(List fM)
 ev:(List eD)
 fx:(List bO)
 ez:Int
 oX:(List fU)
 i7:(List lV)
 ld:(List Ql)
 fi:(List cO)
 oY:(List bL)
 q7:Int
 lz:Int
 jj:(List ax)
 nh:(List Int)
 dt:Int
 gx:(List bU)
 az:(List aC)
 zones:(List ByteArray)
def aha(x:kX):List Tree:=[.sl (x.eM.map Cc),.sl (x.ej.map Fa),.sl (x.er.map Kb),.sl (x.ey.map vo),.sl (x.eQ.map SL),.sl (x.ev.map Kc),.sl (x.fx.map vV),.sc (.int .i64 x.ez),.sl (x.oX.map IW),.sl (x.i7.map Fb),.sl (x.ld.map ME),.sl (x.fi.map MF),.sl (x.oY.map E9),.sc (.int .i64 x.q7),.sc (.int .i64 x.lz),.sl (x.jj.map Gp),.sl (x.nh.map (λ y=>[.sc (.int .i64 y)])),.sc (.int .i64 x.dt),.sl (x.gx.map SH),.sl (x.az.map Gq),.sl (x.zones.map (λ y=>[.sc (.string y)]))]
structure T1 where
 ci:(List eH)
 b7:(List bS)
 b8:(List dH)
 aE:(List aO)
 cm:(List fM)
 cd:(List eD)
 cw:(List bO)
 cg:Int
 area:(List ax)
 az:(List aC)
def aiz(x:T1):List Tree:=[.sl (x.ci.map Cc),.sl (x.b7.map Fa),.sl (x.b8.map Kb),.sl (x.aE.map vo),.sl (x.cm.map SL),.sl (x.cd.map Kc),.sl (x.cw.map vV),.sc (.int .i64 x.cg),.sl (x.area.map Gp),.sl (x.az.map Gq)]
structure Gs where
 a0:ByteArray
 a1:ByteArray
 a2:ByteArray
 a3:ByteArray
 a4:ByteArray
 a5:ByteArray
 deriving DecidableEq,Inhabited
def afk(x:Gs):List Tree:=[.sc (.string x.a0),.sc (.string x.a1),.sc (.string x.a2),.sc (.string x.a3),.sc (.string x.a4),.sc (.string x.a5)]
structure nP where
 defs:(List eH)
 uses:(List (List Int))
def ahb(x:nP):List Tree:=[.sl (x.defs.map Cc),.sl (x.uses.map (λ y=>[.sl (y.map (λ y=>[.sc (.int .i64 y)]))]))]
structure fB where
 z0:Int
 z1:Int
 area:(List ax)
 deriving DecidableEq,Inhabited
def aiA(x:fB):List Tree:=[.sc (.int .i64 x.z0),.sc (.int .i64 x.z1),.sl (x.area.map Gp)]
structure dI where
 side:Int
 base:Int
 num:Int
 den:Int
 deriving DecidableEq,Inhabited
def ahc(x:dI):List Tree:=[.sc (.int .i64 x.side),.sc (.int .i64 x.base),.sc (.int .i64 x.num),.sc (.int .i64 x.den)]
structure Ke where
 a0:Int
 a1:Int
 a2:Int
 a3:Int
 deriving DecidableEq,Inhabited
def afl(x:Ke):List Tree:=[.sc (.int .i64 x.a0),.sc (.int .i64 x.a1),.sc (.int .i64 x.a2),.sc (.int .i64 x.a3)]
inductive SI where
 |Expr
 |lj
 |Lot
 |gA
 |Entry
 |Phase
 |fL
 |AS
 |span
 |strip
 |gS
 |Cap
 |Def
 |Table
 |Zone
 |Rule
 |ga
 |View
 |kf
 |side
 |eR
 |Window
 |ft
 |iS
 |i8
 |site
 |lP
 |graph
 |ke
 |fS
 |lR
 deriving DecidableEq
@[reducible] def TT:SI->Type
 | .Expr=>bH
 | .lj=>ax
 | .Lot=>fU
 | .gA=>aC
 | .Entry=>bL
 | .Phase=>bU
 | .fL=>aP
 | .AS=>At
 | .span=>aL
 | .strip=>bM
 | .gS=>dn
 | .Cap=>fM
 | .Def=>eH
 | .Table=>bS
 | .Zone=>dH
 | .Rule=>aO
 | .ga=>bO
 | .View=>eD
 | .kf=>bZ
 | .side=>iY
 | .eR=>lV
 | .Window=>Ql
 | .ft=>cO
 | .iS=>dS
 | .i8=>kX
 | .site=>T1
 | .lP=>Gs
 | .graph=>nP
 | .ke=>fB
 | .fS=>dI
 | .lR=>Ke
def akw:(i:SI)->TT i->List Tree
 | .Expr,x=>pQ x
 | .lj,x=>Gp x
 | .Lot,x=>IW x
 | .gA,x=>Gq x
 | .Entry,x=>E9 x
 | .Phase,x=>SH x
 | .fL,x=>acQ x
 | .AS,x=>ajJ x
 | .span,x=>Xs x
 | .strip,x=>ag9 x
 | .gS,x=>SK x
 | .Cap,x=>SL x
 | .Def,x=>Cc x
 | .Table,x=>Fa x
 | .Zone,x=>Kb x
 | .Rule,x=>vo x
 | .ga,x=>vV x
 | .View,x=>Kc x
 | .kf,x=>aix x
 | .side,x=>aiy x
 | .eR,x=>Fb x
 | .Window,x=>ME x
 | .ft,x=>MF x
 | .iS,x=>Gr x
 | .i8,x=>aha x
 | .site,x=>aiz x
 | .lP,x=>afk x
 | .graph,x=>ahb x
 | .ke,x=>aiA x
 | .fS,x=>ahc x
 | .lR,x=>afl x
def se:SE:=⟨SI,inferInstance,TT,akw⟩
def NO:SI->List (CT SI)
 | .Expr=>[(.int .i64),(.int .i64),.str,.str,(.sl (.st SI.Expr))]
 | .lj=>[(.int .i64),(.int .i64),(.int .i64),(.int .i64)]
 | .Lot=>[(.int .i64),(.int .i64),(.sl (.st SI.lj)),(.sl (.int .i64))]
 | .gA=>[(.int .i64),(.int .i64),(.int .i64),(.int .i64),(.int .i64),(.int .i64),(.int .i64),(.int .i64),.bool]
 | .Entry=>[.str,(.int .i64)]
 | .Phase=>[(.sl (.st SI.gA)),(.sl (.st SI.Entry))]
 | .fL=>[(.int .i64),(.sl (.st SI.Phase))]
 | .AS=>[(.int .i64),(.int .i64),(.int .i64),(.int .i64),(.int .i64),(.int .i64)]
 | .span=>[(.int .i64),(.int .i64)]
 | .strip=>[(.int .i64),(.int .i64),(.sl (.st SI.span))]
 | .gS=>[(.int .i64),(.int .i64)]
 | .Cap=>[.str,(.int .i64),(.int .i64),(.sl (.st SI.gS))]
 | .Def=>[.str,(.int .i64),(.int .i64),.str,.str,(.sl (.st SI.Expr))]
 | .Table=>[.str,(.sl (.st SI.Entry)),(.int .i64)]
 | .Zone=>[.str,.bool,(.sl (.st SI.gS))]
 | .Rule=>[.str,(.sl .str),(.sl .str),(.int .i64),(.int .i64),(.int .i64),.bool,(.int .i64),(.int .i64),(.int .i64),.str,.str,(.sl (.st SI.Expr)),(.int .i64),(.int .i64),(.int .i64),(.int .i64),(.int .i64),(.int .i64),(.int .i64)]
 | .ga=>[(.int .i64),(.int .i64),(.int .i64)]
 | .View=>[.str,(.int .i64),(.int .i64),(.int .i64),(.int .i64),(.sl (.st SI.ga))]
 | .kf=>[(.sl (.st SI.Def)),(.sl (.st SI.Table)),(.sl (.st SI.Zone)),(.sl (.st SI.Rule)),(.sl (.st SI.Cap)),(.sl (.st SI.View)),(.sl (.st SI.ga)),(.int .i64)]
 | .side=>[(.int .i64),(.int .i64),(.int .i64),(.int .i64)]
 | .eR=>[(.int .i64),(.sl (.st SI.lj)),(.int .i64)]
 | .Window=>[(.int .i64),(.int .i64),(.int .i64),(.int .i64)]
 | .ft=>[(.int .i64),(.int .i64),(.int .i64),(.int .i64),(.int .i64),(.int .i64),(.int .i64),(.int .i64),(.int .i64),.bool]
 | .iS=>[(.sl (.st SI.Def)),(.sl (.st SI.Table)),(.sl (.st SI.Zone)),(.sl (.st SI.Rule)),(.sl (.st SI.Cap)),(.sl (.st SI.View)),(.sl (.st SI.ga)),(.int .i64),(.sl (.st SI.Lot)),(.sl (.st SI.eR)),(.sl (.st SI.Window)),(.sl (.st SI.ft)),(.sl (.st SI.Entry))]
 | .i8=>[(.sl (.st SI.Def)),(.sl (.st SI.Table)),(.sl (.st SI.Zone)),(.sl (.st SI.Rule)),(.sl (.st SI.Cap)),(.sl (.st SI.View)),(.sl (.st SI.ga)),(.int .i64),(.sl (.st SI.Lot)),(.sl (.st SI.eR)),(.sl (.st SI.Window)),(.sl (.st SI.ft)),(.sl (.st SI.Entry)),(.int .i64),(.int .i64),(.sl (.st SI.lj)),(.sl (.int .i64)),(.int .i64),(.sl (.st SI.Phase)),(.sl (.st SI.gA)),(.sl .str)]
 | .site=>[(.sl (.st SI.Def)),(.sl (.st SI.Table)),(.sl (.st SI.Zone)),(.sl (.st SI.Rule)),(.sl (.st SI.Cap)),(.sl (.st SI.View)),(.sl (.st SI.ga)),(.int .i64),(.sl (.st SI.lj)),(.sl (.st SI.gA))]
 | .lP=>[.str,.str,.str,.str,.str,.str]
 | .graph=>[(.sl (.st SI.Def)),(.sl (.sl (.int .i64)))]
 | .ke=>[(.int .i64),(.int .i64),(.sl (.st SI.lj))]
 | .fS=>[(.int .i64),(.int .i64),(.int .i64),(.int .i64)]
 | .lR=>[(.int .i64),(.int .i64),(.int .i64),(.int .i64)]
def akx:(i:SI)->TT i->HL se (NO i)
 | .Expr,x=>(x.op,x.n,x.s,x.key,x.args,())
 | .lj,x=>(x.x0,x.y0,x.x1,x.y1,())
 | .Lot,x=>(x.id,x.owner,x.area,x.from_,())
 | .gA,x=>(x.bm,x.bx,x.bk,x.bu,x.cP,x.cz,x.use,x.units,x.extra,())
 | .Entry,x=>(x.name,x.n,())
 | .Phase,x=>(x.az,x.gives,())
 | .fL,x=>(x.lot,x.phases,())
 | .AS,x=>(x.m7,x.m5,x.m6,x.m4,x.z0,x.z1,())
 | .span,x=>(x.from_,x.to,())
 | .strip,x=>(x.x0,x.x1,x.column,())
 | .gS,x=>(x.x,x.y,())
 | .Cap,x=>(x.name,x.load,x.limit,x.corners,())
 | .Def,x=>(x.name,x.gR,x.kB,x.jp,x.gz,x.ed,())
 | .Table,x=>(x.name,x.rows,x.p7,())
 | .Zone,x=>(x.name,x.overlay,x.corners,())
 | .Rule,x=>(x.name,x.zones,x.except,x.from_,x.i6,x.vi,x.vary,x.kind,x.j7,x.lr,x.lp,x.ik,x.fj,x.gi,x.gj,x.il,x.io,x.uses,x.other,x.n,())
 | .ga,x=>(x.x,x.y,x.z,())
 | .View,x=>(x.name,x.vp,x.vn,x.vm,x.least,x.targets,())
 | .kf,x=>(x.defs,x.tables,x.zones,x.rules,x.caps,x.views,x.ta,x.hours,())
 | .side,x=>(x.kO,x.oy,x.li,x.sR,())
 | .eR,x=>(x.lot,x.area,x.top,())
 | .Window,x=>(x.lot,x.Fk,x.Fi,x.Fc,())
 | .ft,x=>(x.lot,x.d7,x.d5,x.d6,x.dE,x.kq,x.km,x.eC,x.k8,x.k9,())
 | .iS,x=>(x.ci,x.b7,x.b8,x.aE,x.cm,x.cd,x.cw,x.cg,x.land,x.b9,x.windows,x.built,x.base,())
 | .i8,x=>(x.eM,x.ej,x.er,x.ey,x.eQ,x.ev,x.fx,x.ez,x.oX,x.i7,x.ld,x.fi,x.oY,x.q7,x.lz,x.jj,x.nh,x.dt,x.gx,x.az,x.zones,())
 | .site,x=>(x.ci,x.b7,x.b8,x.aE,x.cm,x.cd,x.cw,x.cg,x.area,x.az,())
 | .lP,x=>(x.a0,x.a1,x.a2,x.a3,x.a4,x.a5,())
 | .graph,x=>(x.defs,x.uses,())
 | .ke,x=>(x.z0,x.z1,x.area,())
 | .fS,x=>(x.side,x.base,x.num,x.den,())
 | .lR,x=>(x.a0,x.a1,x.a2,x.a3,())
def akg:(i:SI)->HL se (NO i)->TT i
 | .Expr,h=>⟨h.1,h.2.1,h.2.2.1,h.2.2.2.1,h.2.2.2.2.1⟩
 | .lj,h=>⟨h.1,h.2.1,h.2.2.1,h.2.2.2.1⟩
 | .Lot,h=>⟨h.1,h.2.1,h.2.2.1,h.2.2.2.1⟩
 | .gA,h=>⟨h.1,h.2.1,h.2.2.1,h.2.2.2.1,h.2.2.2.2.1,h.2.2.2.2.2.1,h.2.2.2.2.2.2.1,h.2.2.2.2.2.2.2.1,h.2.2.2.2.2.2.2.2.1⟩
 | .Entry,h=>⟨h.1,h.2.1⟩
 | .Phase,h=>⟨h.1,h.2.1⟩
 | .fL,h=>⟨h.1,h.2.1⟩
 | .AS,h=>⟨h.1,h.2.1,h.2.2.1,h.2.2.2.1,h.2.2.2.2.1,h.2.2.2.2.2.1⟩
 | .span,h=>⟨h.1,h.2.1⟩
 | .strip,h=>⟨h.1,h.2.1,h.2.2.1⟩
 | .gS,h=>⟨h.1,h.2.1⟩
 | .Cap,h=>⟨h.1,h.2.1,h.2.2.1,h.2.2.2.1⟩
 | .Def,h=>⟨h.1,h.2.1,h.2.2.1,h.2.2.2.1,h.2.2.2.2.1,h.2.2.2.2.2.1⟩
 | .Table,h=>⟨h.1,h.2.1,h.2.2.1⟩
 | .Zone,h=>⟨h.1,h.2.1,h.2.2.1⟩
 | .Rule,h=>⟨h.1,h.2.1,h.2.2.1,h.2.2.2.1,h.2.2.2.2.1,h.2.2.2.2.2.1,h.2.2.2.2.2.2.1,h.2.2.2.2.2.2.2.1,h.2.2.2.2.2.2.2.2.1,h.2.2.2.2.2.2.2.2.2.1,h.2.2.2.2.2.2.2.2.2.2.1,h.2.2.2.2.2.2.2.2.2.2.2.1,h.2.2.2.2.2.2.2.2.2.2.2.2.1,h.2.2.2.2.2.2.2.2.2.2.2.2.2.1,h.2.2.2.2.2.2.2.2.2.2.2.2.2.2.1,h.2.2.2.2.2.2.2.2.2.2.2.2.2.2.2.1,h.2.2.2.2.2.2.2.2.2.2.2.2.2.2.2.2.1,h.2.2.2.2.2.2.2.2.2.2.2.2.2.2.2.2.2.1,h.2.2.2.2.2.2.2.2.2.2.2.2.2.2.2.2.2.2.1,h.2.2.2.2.2.2.2.2.2.2.2.2.2.2.2.2.2.2.2.1⟩
 | .ga,h=>⟨h.1,h.2.1,h.2.2.1⟩
 | .View,h=>⟨h.1,h.2.1,h.2.2.1,h.2.2.2.1,h.2.2.2.2.1,h.2.2.2.2.2.1⟩
 | .kf,h=>⟨h.1,h.2.1,h.2.2.1,h.2.2.2.1,h.2.2.2.2.1,h.2.2.2.2.2.1,h.2.2.2.2.2.2.1,h.2.2.2.2.2.2.2.1⟩
 | .side,h=>⟨h.1,h.2.1,h.2.2.1,h.2.2.2.1⟩
 | .eR,h=>⟨h.1,h.2.1,h.2.2.1⟩
 | .Window,h=>⟨h.1,h.2.1,h.2.2.1,h.2.2.2.1⟩
 | .ft,h=>⟨h.1,h.2.1,h.2.2.1,h.2.2.2.1,h.2.2.2.2.1,h.2.2.2.2.2.1,h.2.2.2.2.2.2.1,h.2.2.2.2.2.2.2.1,h.2.2.2.2.2.2.2.2.1,h.2.2.2.2.2.2.2.2.2.1⟩
 | .iS,h=>⟨h.1,h.2.1,h.2.2.1,h.2.2.2.1,h.2.2.2.2.1,h.2.2.2.2.2.1,h.2.2.2.2.2.2.1,h.2.2.2.2.2.2.2.1,h.2.2.2.2.2.2.2.2.1,h.2.2.2.2.2.2.2.2.2.1,h.2.2.2.2.2.2.2.2.2.2.1,h.2.2.2.2.2.2.2.2.2.2.2.1,h.2.2.2.2.2.2.2.2.2.2.2.2.1⟩
 | .i8,h=>⟨h.1,h.2.1,h.2.2.1,h.2.2.2.1,h.2.2.2.2.1,h.2.2.2.2.2.1,h.2.2.2.2.2.2.1,h.2.2.2.2.2.2.2.1,h.2.2.2.2.2.2.2.2.1,h.2.2.2.2.2.2.2.2.2.1,h.2.2.2.2.2.2.2.2.2.2.1,h.2.2.2.2.2.2.2.2.2.2.2.1,h.2.2.2.2.2.2.2.2.2.2.2.2.1,h.2.2.2.2.2.2.2.2.2.2.2.2.2.1,h.2.2.2.2.2.2.2.2.2.2.2.2.2.2.1,h.2.2.2.2.2.2.2.2.2.2.2.2.2.2.2.1,h.2.2.2.2.2.2.2.2.2.2.2.2.2.2.2.2.1,h.2.2.2.2.2.2.2.2.2.2.2.2.2.2.2.2.2.1,h.2.2.2.2.2.2.2.2.2.2.2.2.2.2.2.2.2.2.1,h.2.2.2.2.2.2.2.2.2.2.2.2.2.2.2.2.2.2.2.1,h.2.2.2.2.2.2.2.2.2.2.2.2.2.2.2.2.2.2.2.2.1⟩
 | .site,h=>⟨h.1,h.2.1,h.2.2.1,h.2.2.2.1,h.2.2.2.2.1,h.2.2.2.2.2.1,h.2.2.2.2.2.2.1,h.2.2.2.2.2.2.2.1,h.2.2.2.2.2.2.2.2.1,h.2.2.2.2.2.2.2.2.2.1⟩
 | .lP,h=>⟨h.1,h.2.1,h.2.2.1,h.2.2.2.1,h.2.2.2.2.1,h.2.2.2.2.2.1⟩
 | .graph,h=>⟨h.1,h.2.1⟩
 | .ke,h=>⟨h.1,h.2.1,h.2.2.1⟩
 | .fS,h=>⟨h.1,h.2.1,h.2.2.1,h.2.2.2.1⟩
 | .lR,h=>⟨h.1,h.2.1,h.2.2.1,h.2.2.2.1⟩
def gvS:Nat->Option ((c:CT SI)×CT.T se c):=λ_=>none
def xx:SX:={ toSE:=se,cW:=NO,get:=akx,make:=akg,mN:=by intro i x;cases i<;>first |rfl |exact SG _,fR:=by intro i h;cases i<;>first |rfl |exact SG _,flat:=by intro i;cases i<;>rfl,gv:=gvS,vh:=λ_=>rfl }
abbrev c7:Value:=.slice none 0 0
abbrev da:Value:=.int .i64 0
abbrev B9:Value:=.bool false
abbrev k7:Value:=.string ⟨#[]⟩
def tab:List (TypeId×oc):=[
 (3,⟨1,8,false,[da],.int .i64,[]⟩),
 (4,⟨1,1,false,[B9],.bool,[]⟩),
 (9,⟨1,16,false,[k7],.str,[]⟩),
 (22,⟨1,24,false,[c7],.slice 92,[]⟩),
 (23,⟨1,24,false,[c7],.slice 94,[]⟩),
 (24,⟨1,24,false,[c7],.slice 97,[]⟩),
 (25,⟨1,24,false,[c7],.slice 62,[]⟩),
 (26,⟨1,24,false,[c7],.slice 99,[]⟩),
 (27,⟨1,24,false,[c7],.slice 348,[]⟩),
 (28,⟨1,24,false,[c7],.slice 346,[]⟩),
 (30,⟨8,176,true,[c7,c7,c7,c7,c7,c7,c7,da],.struct [(0,22),(1,23),(2,24),(3,25),(4,26),(5,27),(6,28),(7,3)],[]⟩),
 (31,⟨1,24,false,[c7],.slice 68,[]⟩),
 (32,⟨1,24,false,[c7],.slice 75,[]⟩),
 (33,⟨1,24,false,[c7],.slice 350,[]⟩),
 (34,⟨1,24,false,[c7],.slice 70,[]⟩),
 (35,⟨1,24,false,[c7],.slice 130,[]⟩),
 (37,⟨13,296,true,[c7,c7,c7,c7,c7,c7,c7,da,c7,c7,c7,c7,c7],.struct [(0,30),(8,31),(9,32),(10,33),(11,34),(12,35)],[]⟩),
 (38,⟨1,24,false,[c7],.slice 45,[]⟩),
 (40,⟨2,32,true,[da,c7],.struct [(0,3),(1,38)],[]⟩),
 (43,⟨1,24,false,[c7],.slice 51,[]⟩),
 (45,⟨2,48,true,[c7,c7],.struct [(0,43),(1,35)],[]⟩),
 (47,⟨4,32,true,[da,da,da,da],.struct [(0,3),(1,3),(2,3),(3,3)],[0,0,0,0]⟩),
 (49,⟨6,48,true,[da,da,da,da,da,da],.struct [(0,47),(4,3),(5,3)],[]⟩),
 (51,⟨9,72,true,[da,da,da,da,da,da,da,da,B9],.struct [(0,49),(6,3),(7,3),(8,4)],[]⟩),
 (52,⟨1,24,false,[c7],.slice 9,[]⟩),
 (56,⟨1,24,false,[c7],.slice 58,[]⟩),
 (58,⟨5,72,true,[da,da,k7,k7,c7],.struct [(0,3),(1,3),(2,9),(3,9),(4,56)],[]⟩),
 (60,⟨4,32,true,[da,da,da,da],.struct [(0,3),(1,3),(2,3),(3,3)],[0,0,0,0]⟩),
 (62,⟨20,232,true,[k7,c7,c7,da,da,da,B9,da,da,da,k7,k7,c7,da,da,da,da,da,da,da],.struct [(0,9),(1,52),(2,52),(3,3),(4,3),(5,3),(6,4),(7,3),(8,58),(13,60),(17,3),(18,3),(19,3)],[]⟩),
 (65,⟨1,24,false,[c7],.slice 47,[]⟩),
 (66,⟨1,24,false,[c7],.slice 3,[]⟩),
 (68,⟨4,64,true,[da,da,c7,c7],.struct [(0,3),(1,3),(2,65),(3,66)],[]⟩),
 (70,⟨10,80,true,[da,da,da,da,da,da,da,da,da,B9],.struct [(0,3),(1,51)],[]⟩),
 (75,⟨3,40,true,[da,c7,da],.struct [(0,3),(1,65),(2,3)],[]⟩),
 (78,⟨21,440,true,[c7,c7,c7,c7,c7,c7,c7,da,c7,c7,c7,c7,c7,da,da,c7,c7,da,c7,c7,c7],.struct [(0,37),(13,68),(17,40),(19,43),(20,52)],[]⟩),
 (87,⟨1,24,false,[c7],.slice 120,[]⟩),
 (92,⟨6,88,true,[k7,da,da,k7,k7,c7],.struct [(0,9),(1,58)],[]⟩),
 (94,⟨3,48,true,[k7,c7,da],.struct [(0,9),(1,35),(2,3)],[]⟩),
 (95,⟨1,24,false,[c7],.slice 170,[]⟩),
 (97,⟨3,48,true,[k7,B9,c7],.struct [(0,9),(1,4),(2,95)],[]⟩),
 (99,⟨4,56,true,[k7,da,da,c7],.struct [(0,9),(1,3),(2,3),(3,95)],[]⟩),
 (113,⟨1,24,false,[c7],.slice 60,[]⟩),
 (120,⟨3,40,true,[da,da,c7],.struct [(0,3),(1,3),(2,65)],[]⟩),
 (130,⟨2,24,true,[k7,da],.struct [(0,9),(1,3)],[2,0]⟩),
 (137,⟨1,8,false,[.map none],.map 9 3,[]⟩),
 (139,⟨10,208,true,[c7,c7,c7,c7,c7,c7,c7,da,.map none,c7],.struct [(0,30),(8,137),(9,52)],[]⟩),
 (143,⟨1,8,false,[.pointer none],.other,[]⟩),
 (145,⟨10,224,true,[c7,c7,c7,c7,c7,c7,c7,da,c7,c7],.struct [(0,30),(8,65),(9,43)],[]⟩),
 (147,⟨1,8,false,[.nilFunc],.other,[]⟩),
 (149,⟨2,24,true,[k7,.nilFunc],.struct [(0,9),(1,147)],[]⟩),
 (150,⟨18,216,true,[k7,.nilFunc,k7,.nilFunc,k7,.nilFunc,k7,.nilFunc,k7,.nilFunc,k7,.nilFunc,k7,.nilFunc,k7,.nilFunc,k7,.nilFunc],.arr 9 149,[]⟩),
 (164,⟨1,8,false,[.map none],.map 9 4,[]⟩),
 (170,⟨2,16,true,[da,da],.struct [(0,3),(1,3)],[0,0]⟩),
 (194,⟨1,24,false,[c7],.slice 201,[]⟩),
 (199,⟨1,24,false,[c7],.slice 229,[]⟩),
 (201,⟨3,40,true,[da,da,c7],.struct [(0,3),(1,3),(2,199)],[]⟩),
 (218,⟨1,8,false,[.int .u64 0],.int .u64,[]⟩),
 (225,⟨4,32,true,[da,da,da,da],.arr 4 3,[]⟩),
 (229,⟨2,16,true,[da,da],.struct [(0,3),(1,3)],[0,0]⟩),
 (230,⟨1,24,false,[c7],.slice 65,[]⟩),
 (241,⟨1,24,false,[c7],.slice 244,[]⟩),
 (244,⟨4,32,true,[da,da,da,da],.struct [(0,170),(2,170)],[]⟩),
 (245,⟨1,24,false,[c7],.slice 66,[]⟩),
 (247,⟨2,48,true,[c7,c7],.struct [(0,22),(1,245)],[]⟩),
 (251,⟨1,24,false,[c7],.slice 4,[]⟩),
 (270,⟨6,96,true,[k7,k7,k7,k7,k7,k7],.arr 6 9,[]⟩),
 (274,⟨1,24,false,[c7],.slice 199,[]⟩),
 (346,⟨3,24,true,[da,da,da],.struct [(0,3),(1,3),(2,3)],[0,0,0]⟩),
 (348,⟨6,72,true,[k7,da,da,da,da,c7],.struct [(0,9),(1,346),(4,3),(5,28)],[]⟩),
 (350,⟨4,32,true,[da,da,da,da],.struct [(0,3),(1,346)],[]⟩)]
def akh:List (TypeId×CT SI):=[(3,(.int .i64)),(4,.bool),(9,.str),(43,(.sl (.st SI.gA))),(45,(.st SI.Phase)),(47,(.st SI.lj)),(51,(.st SI.gA)),(58,(.st SI.Expr)),(60,(.st SI.fS)),(62,(.st SI.Rule)),(65,(.sl (.st SI.lj))),(68,(.st SI.Lot)),(70,(.st SI.ft)),(120,(.st SI.ke)),(130,(.st SI.Entry)),(199,(.sl (.st SI.span))),(201,(.st SI.strip)),(229,(.st SI.span)),(244,(.st SI.side))]
def Ts:TypeId->Option (CT xx.ι):=lk akh
theorem Tr:eY Tryz.prog (Rf tab):=agc (by kernel_rfl)
theorem mixed:Tryz.prog.follows .mixedOrders=true:=Checked.mixed Tryz.checked
theorem cq{f:FuncId}{fn:Func}{l:List (FuncId×ca xx)}(hΓ:qu Tryz.prog (ud l))(hfn:Tryz.prog.funcs[f]? =some fn){s:ca xx}(h:Hn SI)(n:Nat)
 (hq : (fn.body.isSome && !(fn.name == "runtime.NumGoroutine") && decide (s.args.length <= fn.ntmps /\ oP s.args <= 1000 /\ (s.res.filter RT.out).length = oP s.args)) = true := by kernel_rfl) (hg : s.gen = none := by rfl)
 (hr:∀a,run (ud l) (Rf tab) Ts fn.ntmps n (fn.body.getD .skip) (qJ xx s.res) h (t6 s.args a) (TO (Rf tab) fn.results.toList s.res)=s.fn a:=by intro _;kernel_rfl):AN Tryz.prog f s:=by
 rw[aJ,aJ]at hq;obtain⟨⟨q1,q2⟩,q3⟩:=hq;have hb:fn.body=some (fn.body.getD .skip):=by
  cases hc:fn.body with
  |none=>rw[hc]at q1;cases q1
  |some c=>rfl
 have hn : (fn.name == "runtime.NumGoroutine") = false := by simpa using q2
 exact vu (uj hfn hb hn) (λ a _ e=>aj8 Tr mixed hΓ hfn hb hn _ _ (of_decide_eq_true q3) h n ((hr a).trans e)) hg
theorem mT{f:FuncId}{fn:Func}{l:List (FuncId×ca xx)}(hΓ:qu Tryz.prog (ud l))(hfn:Tryz.prog.funcs[f]? =some fn){g:cN xx}(h:Hn SI)(n:Nat)
 (hq : (fn.body.isSome && !(fn.name == "runtime.NumGoroutine") && decide (g.ox.length <= fn.ntmps) && g.wy) = true)
 (hr:∀v,run (ud l) (Rf tab) Ts fn.ntmps n (fn.body.getD .skip) (VT (X:=xx) (yw g).vars) h (BT g v) (T4 (Rf tab) fn.results.toList g)=g.fn v):AN Tryz.prog f ⟨[],[.d .bool],λ_=>none,some g⟩:=by
 rw[aJ,aJ,aJ]at hq;obtain⟨⟨⟨q1,q2⟩,q3⟩,q4⟩:=hq;have hb:fn.body=some (fn.body.getD .skip):=by
  cases hc:fn.body with
  |none=>rw[hc]at q1;cases q1
  |some c=>rfl
 have hn : (fn.name == "runtime.NumGoroutine") = false := by simpa using q2
 exact NX (uj hfn hb hn) (ajB Tr mixed hΓ hfn hb hn g (of_decide_eq_true q3) q4 h n (λ v _ e=>(hr v).trans e))
theorem gcn:qu Tryz.prog (ud ([]:List (FuncId×ca xx))):=aD
abbrev ai:CT SI:=.int .i64
abbrev aA:CT SI:=.st SI.lj
abbrev aI:CT SI:=.st SI.gA
abbrev eG:CT SI:=.st SI.fL
abbrev bE:CT SI:=.st SI.Cap
abbrev bg:CT SI:=.st SI.Def
abbrev aX:CT SI:=.st SI.Table
abbrev bA:CT SI:=.st SI.Zone
abbrev aW:CT SI:=.st SI.Rule
abbrev aU:CT SI:=.st SI.ga
abbrev bB:CT SI:=.st SI.View
abbrev aK(f:Nat)(s:ca xx):Prop:=AN Tryz.prog f s
abbrev gB:=(List eH)×(List bS)×(List dH)×(List aO)×(List fM)×(List eD)×(List bO)×Int×(List ax)×(List aC)
end Go.Proofs
