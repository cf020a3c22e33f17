import Derived.Test.YtbdekfpclohfnaaGreatSeq
import Derived.Test.YtbdekfpclohfnaaGreatChecked
namespace Go.Proofs
open Go.Gb Go.RowKit
structure ny where
 a0:Int
 a1:Int
 deriving DecidableEq,Inhabited
def acg(x:ny):List Tree:=[.sc (.int .i64 x.a0),.sc (.int .i64 x.a1)]
structure aU where
 values:Int
 pairs:(List ny)
 deriving DecidableEq,Inhabited
def am9(x:aU):List Tree:=[.sc (.int .i64 x.values),.sl (x.pairs.map acg)]
structure dP where
 l:List Bool
 h:l.length=144
 deriving DecidableEq
def adF(x:dP):List Tree:=x.l.map λy=> .sc (.bool y)
def dK(l:List Bool):Option dP:=if h:l.length=144 then some ⟨l,h⟩else none
structure ay where
 x0:Int
 y0:Int
 x1:Int
 y1:Int
 deriving DecidableEq,Inhabited
def WB(x:ay):List Tree:=[.sc (.int .i64 x.x0),.sc (.int .i64 x.y0),.sc (.int .i64 x.x1),.sc (.int .i64 x.y1)]
structure fU where
 id:Int
 owner:Int
 area:(List ay)
 from_:(List Int)
 deriving DecidableEq,Inhabited
def PR(x:fU):List Tree:=[.sc (.int .i64 x.id),.sc (.int .i64 x.owner),.sl (x.area.map WB),.sl (x.from_.map (λ y=>[.sc (.int .i64 y)]))]
structure aJ where
 from_:Int
 to:Int
 deriving DecidableEq,Inhabited
def XS(x:aJ):List Tree:=[.sc (.int .i64 x.from_),.sc (.int .i64 x.to)]
structure bF where
 x0:Int
 x1:Int
 column:(List aJ)
 deriving DecidableEq,Inhabited
def ana(x:bF):List Tree:=[.sc (.int .i64 x.x0),.sc (.int .i64 x.x1),.sl (x.column.map XS)]
structure aQ where
 bz:Int
 cg:Int
 bx:Int
 cf:Int
 dy:Int
 dg:Int
 use:Int
 units:Int
 extra:Bool
 deriving DecidableEq,Inhabited
def Tx(x:aQ):List Tree:=[.sc (.int .i64 x.bz),.sc (.int .i64 x.cg),.sc (.int .i64 x.bx),.sc (.int .i64 x.cf),.sc (.int .i64 x.dy),.sc (.int .i64 x.dg),.sc (.int .i64 x.use),.sc (.int .i64 x.units),.sc (.bool x.extra)]
structure bQ where
 name:ByteArray
 n:Int
 deriving DecidableEq,Inhabited
def Lx(x:bQ):List Tree:=[.sc (.string x.name),.sc (.int .i64 x.n)]
structure zm where
 cp:(List aQ)
 gives:(List bQ)
 deriving DecidableEq,Inhabited
def YK(x:zm):List Tree:=[.sl (x.cp.map Tx),.sl (x.gives.map Lx)]
structure bi where
 lot:Int
 phases:(List zm)
 deriving DecidableEq,Inhabited
def OZ(x:bi):List Tree:=[.sc (.int .i64 x.lot),.sl (x.phases.map YK)]
structure U9 where
 op:Int
 n:Int
 s:ByteArray
 key:ByteArray
 args:(List U9)
mutual
def Ef:U9->List Tree
 |⟨f0,f1,f2,f3,f4⟩=>[.sc (.int .i64 f0),.sc (.int .i64 f1),.sc (.string f2),.sc (.string f3),.sl (QJ f4)]
def QJ:List U9->List (List Tree)
 |[]=>[]
 |x::xs=>Ef x::QJ xs
end
theorem QK:∀l:List U9,QJ l=l.map Ef
 |[]=>rfl
 |x::xs=>by rw[QJ,QK xs];rfl
theorem YL(x:U9):Ef x=[.sc (.int .i64 x.op),.sc (.int .i64 x.n),.sc (.string x.s),.sc (.string x.key),.sl (x.args.map Ef)]:=by cases x;simp only[Ef,QK]
structure qI where
 name:ByteArray
 pP:Int
 sd:Int
 rS:ByteArray
 oR:ByteArray
 mN:(List U9)
def HT(x:qI):List Tree:=[.sc (.string x.name),.sc (.int .i64 x.pP),.sc (.int .i64 x.sd),.sc (.string x.rS),.sc (.string x.oR),.sl (x.mN.map Ef)]
structure fH where
 name:ByteArray
 rows:(List bQ)
 pC:Int
 deriving DecidableEq,Inhabited
def LA(x:fH):List Tree:=[.sc (.string x.name),.sl (x.rows.map Lx),.sc (.int .i64 x.pC)]
structure HS where
 x:Int
 y:Int
 deriving DecidableEq,Inhabited
def YM(x:HS):List Tree:=[.sc (.int .i64 x.x),.sc (.int .i64 x.y)]
structure jG where
 name:ByteArray
 overlay:Bool
 corners:(List HS)
 deriving DecidableEq,Inhabited
def WC(x:jG):List Tree:=[.sc (.string x.name),.sc (.bool x.overlay),.sl (x.corners.map YM)]
structure dL where
 name:ByteArray
 zones:(List ByteArray)
 except:(List ByteArray)
 from_:Int
 qv:Int
 ua:Int
 vary:Bool
 kind:Int
 pw:Int
 q6:Int
 qT:ByteArray
 oe:ByteArray
 mw:(List U9)
 lh:Int
 li:Int
 mz:Int
 mA:Int
 uses:Int
 other:Int
 n:Int
def WE(x:dL):List Tree:=[.sc (.string x.name),.sl (x.zones.map (λ y=>[.sc (.string y)])),.sl (x.except.map (λ y=>[.sc (.string y)])),.sc (.int .i64 x.from_),.sc (.int .i64 x.qv),.sc (.int .i64 x.ua),.sc (.bool x.vary),.sc (.int .i64 x.kind),.sc (.int .i64 x.pw),.sc (.int .i64 x.q6),.sc (.string x.qT),.sc (.string x.oe),.sl (x.mw.map Ef),.sc (.int .i64 x.lh),.sc (.int .i64 x.li),.sc (.int .i64 x.mz),.sc (.int .i64 x.mA),.sc (.int .i64 x.uses),.sc (.int .i64 x.other),.sc (.int .i64 x.n)]
structure qJ where
 name:ByteArray
 load:Int
 limit:Int
 corners:(List HS)
 deriving DecidableEq,Inhabited
def HR(x:qJ):List Tree:=[.sc (.string x.name),.sc (.int .i64 x.load),.sc (.int .i64 x.limit),.sl (x.corners.map YM)]
structure eZ where
 x:Int
 y:Int
 z:Int
 deriving DecidableEq,Inhabited
def Gl(x:eZ):List Tree:=[.sc (.int .i64 x.x),.sc (.int .i64 x.y),.sc (.int .i64 x.z)]
structure jH where
 name:ByteArray
 uk:Int
 ue:Int
 ud:Int
 least:Int
 targets:(List eZ)
 deriving DecidableEq,Inhabited
def WG(x:jH):List Tree:=[.sc (.string x.name),.sc (.int .i64 x.uk),.sc (.int .i64 x.ue),.sc (.int .i64 x.ud),.sc (.int .i64 x.least),.sl (x.targets.map Gl)]
structure T7 where
 cy:(List qI)
 bu:(List fH)
 b9:(List jG)
 bp:(List dL)
 c9:(List qJ)
 cT:(List jH)
 dt:(List eZ)
 cU:Int
 area:(List ay)
 cp:(List aQ)
def aoD(x:T7):List Tree:=[.sl (x.cy.map HT),.sl (x.bu.map LA),.sl (x.b9.map WC),.sl (x.bp.map WE),.sl (x.c9.map HR),.sl (x.cT.map WG),.sl (x.dt.map Gl),.sc (.int .i64 x.cU),.sl (x.area.map WB),.sl (x.cp.map Tx)]
structure MU where
 a0:ByteArray
 a1:ByteArray
 a2:ByteArray
 a3:ByteArray
 a4:ByteArray
 a5:ByteArray
 deriving DecidableEq,Inhabited
def ak3(x:MU):List Tree:=[.sc (.string x.a0),.sc (.string x.a1),.sc (.string x.a2),.sc (.string x.a3),.sc (.string x.a4),.sc (.string x.a5)]
structure gQ where
 defs:(List qI)
 tables:(List fH)
 zones:(List jG)
 rules:(List dL)
 caps:(List qJ)
 views:(List jH)
 ot:(List eZ)
 hours:Int
def aoE(x:gQ):List Tree:=[.sl (x.defs.map HT),.sl (x.tables.map LA),.sl (x.zones.map WC),.sl (x.rules.map WE),.sl (x.caps.map HR),.sl (x.views.map WG),.sl (x.ot.map Gl),.sc (.int .i64 x.hours)]
structure MV where
 lot:Int
 area:(List ay)
 top:Int
 deriving DecidableEq,Inhabited
def Va(x:MV):List Tree:=[.sc (.int .i64 x.lot),.sl (x.area.map WB),.sc (.int .i64 x.top)]
structure RK where
 lot:Int
 E6:Int
 E0:Int
 EV:Int
 deriving DecidableEq,Inhabited
def ach(x:RK):List Tree:=[.sc (.int .i64 x.lot),.sc (.int .i64 x.E6),.sc (.int .i64 x.E0),.sc (.int .i64 x.EV)]
structure RE where
 lot:Int
 ft:Int
 fm:Int
 fp:Int
 fj:Int
 hU:Int
 hH:Int
 k5:Int
 iz:Int
 iS:Bool
 deriving DecidableEq,Inhabited
def aci(x:RE):List Tree:=[.sc (.int .i64 x.lot),.sc (.int .i64 x.ft),.sc (.int .i64 x.fm),.sc (.int .i64 x.fp),.sc (.int .i64 x.fj),.sc (.int .i64 x.hU),.sc (.int .i64 x.hH),.sc (.int .i64 x.k5),.sc (.int .i64 x.iz),.sc (.bool x.iS)]
structure gU where
 cy:(List qI)
 bu:(List fH)
 b9:(List jG)
 bp:(List dL)
 c9:(List qJ)
 cT:(List jH)
 dt:(List eZ)
 cU:Int
 land:(List fU)
 cz:(List MV)
 windows:(List RK)
 built:(List RE)
 base:(List bQ)
def aoF(x:gU):List Tree:=[.sl (x.cy.map HT),.sl (x.bu.map LA),.sl (x.b9.map WC),.sl (x.bp.map WE),.sl (x.c9.map HR),.sl (x.cT.map WG),.sl (x.dt.map Gl),.sc (.int .i64 x.cU),.sl (x.land.map PR),.sl (x.cz.map Va),.sl (x.windows.map ach),.sl (x.built.map aci),.sl (x.base.map Lx)]
structure yD where
 l:List Int
 h:l.length=12
 deriving DecidableEq
def ah7(x:yD):List Tree:=x.l.map λy=> .sc (.int .i64 y)
def wP(l:List Int):Option yD:=if h:l.length=12 then some ⟨l,h⟩else none
structure aH where
 id:Int
 values:(List Int)
 grant:Bool
 deriving DecidableEq,Inhabited
def aoG(x:aH):List Tree:=[.sc (.int .i64 x.id),.sl (x.values.map (λ y=>[.sc (.int .i64 y)])),.sc (.bool x.grant)]
structure LB where
 id:Int
 holder:Int
 state:Int
 day:Int
 rule:Int
 fy:(List bi)
 choice:Int
 into:Int
 deriving DecidableEq,Inhabited
def ah8(x:LB):List Tree:=[.sc (.int .i64 x.id),.sc (.int .i64 x.holder),.sc (.int .i64 x.state),.sc (.int .i64 x.day),.sc (.int .i64 x.rule),.sl (x.fy.map OZ),.sc (.int .i64 x.choice),.sc (.int .i64 x.into)]
structure Hh where
 kind:Int
 day:Int
 n:Int
 fy:(List bi)
 deriving DecidableEq,Inhabited
def apK(x:Hh):List Tree:=[.sc (.int .i64 x.kind),.sc (.int .i64 x.day),.sc (.int .i64 x.n),.sl (x.fy.map OZ)]
structure Hd where
 nf:Int
 nc:Int
 nd:Int
 nb:Int
 z0:Int
 z1:Int
 deriving DecidableEq,Inhabited
def apL(x:Hd):List Tree:=[.sc (.int .i64 x.nf),.sc (.int .i64 x.nc),.sc (.int .i64 x.nd),.sc (.int .i64 x.nb),.sc (.int .i64 x.z0),.sc (.int .i64 x.z1)]
structure E7 where
 id:Int
 values:(List Int)
 cm:Bool
 deriving DecidableEq,Inhabited
def apM(x:E7):List Tree:=[.sc (.int .i64 x.id),.sl (x.values.map (λ y=>[.sc (.int .i64 y)])),.sc (.bool x.cm)]
structure Ty where
 l:List Bool
 h:l.length=12
 deriving DecidableEq
def afS(x:Ty):List Tree:=x.l.map λy=> .sc (.bool y)
def O1(l:List Bool):Option Ty:=if h:l.length=12 then some ⟨l,h⟩else none
inductive SI where
 |iu
 |Order
 |cP
 |ir
 |Lot
 |span
 |strip
 |gd
 |Entry
 |Phase
 |df
 |Expr
 |Def
 |Table
 |lP
 |Zone
 |Rule
 |Cap
 |fX
 |View
 |site
 |j7
 |i9
 |f9
 |Window
 |jz
 |eS
 |fi
 |Case
 |gE
 |Act
 |BT
 |Ask
 |eM
 deriving DecidableEq
@[reducible] def TT:SI->Type
 | .iu=>ny
 | .Order=>aU
 | .cP=>dP
 | .ir=>ay
 | .Lot=>fU
 | .span=>aJ
 | .strip=>bF
 | .gd=>aQ
 | .Entry=>bQ
 | .Phase=>zm
 | .df=>bi
 | .Expr=>U9
 | .Def=>qI
 | .Table=>fH
 | .lP=>HS
 | .Zone=>jG
 | .Rule=>dL
 | .Cap=>qJ
 | .fX=>eZ
 | .View=>jH
 | .site=>T7
 | .j7=>MU
 | .i9=>gQ
 | .f9=>MV
 | .Window=>RK
 | .jz=>RE
 | .eS=>gU
 | .fi=>yD
 | .Case=>aH
 | .gE=>LB
 | .Act=>Hh
 | .BT=>Hd
 | .Ask=>E7
 | .eM=>Ty
def Tu:(i:SI)->TT i->List Tree
 | .iu,x=>acg x
 | .Order,x=>am9 x
 | .cP,x=>adF x
 | .ir,x=>WB x
 | .Lot,x=>PR x
 | .span,x=>XS x
 | .strip,x=>ana x
 | .gd,x=>Tx x
 | .Entry,x=>Lx x
 | .Phase,x=>YK x
 | .df,x=>OZ x
 | .Expr,x=>Ef x
 | .Def,x=>HT x
 | .Table,x=>LA x
 | .lP,x=>YM x
 | .Zone,x=>WC x
 | .Rule,x=>WE x
 | .Cap,x=>HR x
 | .fX,x=>Gl x
 | .View,x=>WG x
 | .site,x=>aoD x
 | .j7,x=>ak3 x
 | .i9,x=>aoE x
 | .f9,x=>Va x
 | .Window,x=>ach x
 | .jz,x=>aci x
 | .eS,x=>aoF x
 | .fi,x=>ah7 x
 | .Case,x=>aoG x
 | .gE,x=>ah8 x
 | .Act,x=>apK x
 | .BT,x=>apL x
 | .Ask,x=>apM x
 | .eM,x=>afS x
def se:SE:=⟨SI,inferInstance,TT,Tu⟩
def Nx:SI->List (CT SI)
 | .iu=>[(.int .i64),(.int .i64)]
 | .Order=>[(.int .i64),(.sl (.st SI.iu))]
 | .cP=>List.replicate 144 .bool
 | .ir=>[(.int .i64),(.int .i64),(.int .i64),(.int .i64)]
 | .Lot=>[(.int .i64),(.int .i64),(.sl (.st SI.ir)),(.sl (.int .i64))]
 | .span=>[(.int .i64),(.int .i64)]
 | .strip=>[(.int .i64),(.int .i64),(.sl (.st SI.span))]
 | .gd=>[(.int .i64),(.int .i64),(.int .i64),(.int .i64),(.int .i64),(.int .i64),(.int .i64),(.int .i64),.bool]
 | .Entry=>[.str,(.int .i64)]
 | .Phase=>[(.sl (.st SI.gd)),(.sl (.st SI.Entry))]
 | .df=>[(.int .i64),(.sl (.st SI.Phase))]
 | .Expr=>[(.int .i64),(.int .i64),.str,.str,(.sl (.st SI.Expr))]
 | .Def=>[.str,(.int .i64),(.int .i64),.str,.str,(.sl (.st SI.Expr))]
 | .Table=>[.str,(.sl (.st SI.Entry)),(.int .i64)]
 | .lP=>[(.int .i64),(.int .i64)]
 | .Zone=>[.str,.bool,(.sl (.st SI.lP))]
 | .Rule=>[.str,(.sl .str),(.sl .str),(.int .i64),(.int .i64),(.int .i64),.bool,(.int .i64),(.int .i64),(.int .i64),.str,.str,(.sl (.st SI.Expr)),(.int .i64),(.int .i64),(.int .i64),(.int .i64),(.int .i64),(.int .i64),(.int .i64)]
 | .Cap=>[.str,(.int .i64),(.int .i64),(.sl (.st SI.lP))]
 | .fX=>[(.int .i64),(.int .i64),(.int .i64)]
 | .View=>[.str,(.int .i64),(.int .i64),(.int .i64),(.int .i64),(.sl (.st SI.fX))]
 | .site=>[(.sl (.st SI.Def)),(.sl (.st SI.Table)),(.sl (.st SI.Zone)),(.sl (.st SI.Rule)),(.sl (.st SI.Cap)),(.sl (.st SI.View)),(.sl (.st SI.fX)),(.int .i64),(.sl (.st SI.ir)),(.sl (.st SI.gd))]
 | .j7=>[.str,.str,.str,.str,.str,.str]
 | .i9=>[(.sl (.st SI.Def)),(.sl (.st SI.Table)),(.sl (.st SI.Zone)),(.sl (.st SI.Rule)),(.sl (.st SI.Cap)),(.sl (.st SI.View)),(.sl (.st SI.fX)),(.int .i64)]
 | .f9=>[(.int .i64),(.sl (.st SI.ir)),(.int .i64)]
 | .Window=>[(.int .i64),(.int .i64),(.int .i64),(.int .i64)]
 | .jz=>[(.int .i64),(.int .i64),(.int .i64),(.int .i64),(.int .i64),(.int .i64),(.int .i64),(.int .i64),(.int .i64),.bool]
 | .eS=>[(.sl (.st SI.Def)),(.sl (.st SI.Table)),(.sl (.st SI.Zone)),(.sl (.st SI.Rule)),(.sl (.st SI.Cap)),(.sl (.st SI.View)),(.sl (.st SI.fX)),(.int .i64),(.sl (.st SI.Lot)),(.sl (.st SI.f9)),(.sl (.st SI.Window)),(.sl (.st SI.jz)),(.sl (.st SI.Entry))]
 | .fi=>List.replicate 12 (.int .i64)
 | .Case=>[(.int .i64),(.sl (.int .i64)),.bool]
 | .gE=>[(.int .i64),(.int .i64),(.int .i64),(.int .i64),(.int .i64),(.sl (.st SI.df)),(.int .i64),(.int .i64)]
 | .Act=>[(.int .i64),(.int .i64),(.int .i64),(.sl (.st SI.df))]
 | .BT=>[(.int .i64),(.int .i64),(.int .i64),(.int .i64),(.int .i64),(.int .i64)]
 | .Ask=>[(.int .i64),(.sl (.int .i64)),.bool]
 | .eM=>List.replicate 12 .bool
def aqP:(i:SI)->TT i->HL se (Nx i)
 | .iu,x=>(x.a0,x.a1,())
 | .Order,x=>(x.values,x.pairs,())
 | .cP,x=>Bx se .bool 144 x.l x.h
 | .ir,x=>(x.x0,x.y0,x.x1,x.y1,())
 | .Lot,x=>(x.id,x.owner,x.area,x.from_,())
 | .span,x=>(x.from_,x.to,())
 | .strip,x=>(x.x0,x.x1,x.column,())
 | .gd,x=>(x.bz,x.cg,x.bx,x.cf,x.dy,x.dg,x.use,x.units,x.extra,())
 | .Entry,x=>(x.name,x.n,())
 | .Phase,x=>(x.cp,x.gives,())
 | .df,x=>(x.lot,x.phases,())
 | .Expr,x=>(x.op,x.n,x.s,x.key,x.args,())
 | .Def,x=>(x.name,x.pP,x.sd,x.rS,x.oR,x.mN,())
 | .Table,x=>(x.name,x.rows,x.pC,())
 | .lP,x=>(x.x,x.y,())
 | .Zone,x=>(x.name,x.overlay,x.corners,())
 | .Rule,x=>(x.name,x.zones,x.except,x.from_,x.qv,x.ua,x.vary,x.kind,x.pw,x.q6,x.qT,x.oe,x.mw,x.lh,x.li,x.mz,x.mA,x.uses,x.other,x.n,())
 | .Cap,x=>(x.name,x.load,x.limit,x.corners,())
 | .fX,x=>(x.x,x.y,x.z,())
 | .View,x=>(x.name,x.uk,x.ue,x.ud,x.least,x.targets,())
 | .site,x=>(x.cy,x.bu,x.b9,x.bp,x.c9,x.cT,x.dt,x.cU,x.area,x.cp,())
 | .j7,x=>(x.a0,x.a1,x.a2,x.a3,x.a4,x.a5,())
 | .i9,x=>(x.defs,x.tables,x.zones,x.rules,x.caps,x.views,x.ot,x.hours,())
 | .f9,x=>(x.lot,x.area,x.top,())
 | .Window,x=>(x.lot,x.E6,x.E0,x.EV,())
 | .jz,x=>(x.lot,x.ft,x.fm,x.fp,x.fj,x.hU,x.hH,x.k5,x.iz,x.iS,())
 | .eS,x=>(x.cy,x.bu,x.b9,x.bp,x.c9,x.cT,x.dt,x.cU,x.land,x.cz,x.windows,x.built,x.base,())
 | .fi,x=>Bx se (.int .i64) 12 x.l x.h
 | .Case,x=>(x.id,x.values,x.grant,())
 | .gE,x=>(x.id,x.holder,x.state,x.day,x.rule,x.fy,x.choice,x.into,())
 | .Act,x=>(x.kind,x.day,x.n,x.fy,())
 | .BT,x=>(x.nf,x.nc,x.nd,x.nb,x.z0,x.z1,())
 | .Ask,x=>(x.id,x.values,x.cm,())
 | .eM,x=>Bx se .bool 12 x.l x.h
def aqy:(i:SI)->HL se (Nx i)->TT i
 | .iu,h=>⟨h.1,h.2.1⟩
 | .Order,h=>⟨h.1,h.2.1⟩
 | .cP,h=>⟨yq se .bool 144 h,Wv se _ _ h⟩
 | .ir,h=>⟨h.1,h.2.1,h.2.2.1,h.2.2.2.1⟩
 | .Lot,h=>⟨h.1,h.2.1,h.2.2.1,h.2.2.2.1⟩
 | .span,h=>⟨h.1,h.2.1⟩
 | .strip,h=>⟨h.1,h.2.1,h.2.2.1⟩
 | .gd,h=>⟨h.1,h.2.1,h.2.2.1,h.2.2.2.1,h.2.2.2.2.1,h.2.2.2.2.2.1,h.2.2.2.2.2.2.1,h.2.2.2.2.2.2.2.1,h.2.2.2.2.2.2.2.2.1⟩
 | .Entry,h=>⟨h.1,h.2.1⟩
 | .Phase,h=>⟨h.1,h.2.1⟩
 | .df,h=>⟨h.1,h.2.1⟩
 | .Expr,h=>⟨h.1,h.2.1,h.2.2.1,h.2.2.2.1,h.2.2.2.2.1⟩
 | .Def,h=>⟨h.1,h.2.1,h.2.2.1,h.2.2.2.1,h.2.2.2.2.1,h.2.2.2.2.2.1⟩
 | .Table,h=>⟨h.1,h.2.1,h.2.2.1⟩
 | .lP,h=>⟨h.1,h.2.1⟩
 | .Zone,h=>⟨h.1,h.2.1,h.2.2.1⟩
 | .Rule,h=>⟨h.1,h.2.1,h.2.2.1,h.2.2.2.1,h.2.2.2.2.1,h.2.2.2.2.2.1,h.2.2.2.2.2.2.1,h.2.2.2.2.2.2.2.1,h.2.2.2.2.2.2.2.2.1,h.2.2.2.2.2.2.2.2.2.1,h.2.2.2.2.2.2.2.2.2.2.1,h.2.2.2.2.2.2.2.2.2.2.2.1,h.2.2.2.2.2.2.2.2.2.2.2.2.1,h.2.2.2.2.2.2.2.2.2.2.2.2.2.1,h.2.2.2.2.2.2.2.2.2.2.2.2.2.2.1,h.2.2.2.2.2.2.2.2.2.2.2.2.2.2.2.1,h.2.2.2.2.2.2.2.2.2.2.2.2.2.2.2.2.1,h.2.2.2.2.2.2.2.2.2.2.2.2.2.2.2.2.2.1,h.2.2.2.2.2.2.2.2.2.2.2.2.2.2.2.2.2.2.1,h.2.2.2.2.2.2.2.2.2.2.2.2.2.2.2.2.2.2.2.1⟩
 | .Cap,h=>⟨h.1,h.2.1,h.2.2.1,h.2.2.2.1⟩
 | .fX,h=>⟨h.1,h.2.1,h.2.2.1⟩
 | .View,h=>⟨h.1,h.2.1,h.2.2.1,h.2.2.2.1,h.2.2.2.2.1,h.2.2.2.2.2.1⟩
 | .site,h=>⟨h.1,h.2.1,h.2.2.1,h.2.2.2.1,h.2.2.2.2.1,h.2.2.2.2.2.1,h.2.2.2.2.2.2.1,h.2.2.2.2.2.2.2.1,h.2.2.2.2.2.2.2.2.1,h.2.2.2.2.2.2.2.2.2.1⟩
 | .j7,h=>⟨h.1,h.2.1,h.2.2.1,h.2.2.2.1,h.2.2.2.2.1,h.2.2.2.2.2.1⟩
 | .i9,h=>⟨h.1,h.2.1,h.2.2.1,h.2.2.2.1,h.2.2.2.2.1,h.2.2.2.2.2.1,h.2.2.2.2.2.2.1,h.2.2.2.2.2.2.2.1⟩
 | .f9,h=>⟨h.1,h.2.1,h.2.2.1⟩
 | .Window,h=>⟨h.1,h.2.1,h.2.2.1,h.2.2.2.1⟩
 | .jz,h=>⟨h.1,h.2.1,h.2.2.1,h.2.2.2.1,h.2.2.2.2.1,h.2.2.2.2.2.1,h.2.2.2.2.2.2.1,h.2.2.2.2.2.2.2.1,h.2.2.2.2.2.2.2.2.1,h.2.2.2.2.2.2.2.2.2.1⟩
 | .eS,h=>⟨h.1,h.2.1,h.2.2.1,h.2.2.2.1,h.2.2.2.2.1,h.2.2.2.2.2.1,h.2.2.2.2.2.2.1,h.2.2.2.2.2.2.2.1,h.2.2.2.2.2.2.2.2.1,h.2.2.2.2.2.2.2.2.2.1,h.2.2.2.2.2.2.2.2.2.2.1,h.2.2.2.2.2.2.2.2.2.2.2.1,h.2.2.2.2.2.2.2.2.2.2.2.2.1⟩
 | .fi,h=>⟨yq se (.int .i64) 12 h,Wv se _ _ h⟩
 | .Case,h=>⟨h.1,h.2.1,h.2.2.1⟩
 | .gE,h=>⟨h.1,h.2.1,h.2.2.1,h.2.2.2.1,h.2.2.2.2.1,h.2.2.2.2.2.1,h.2.2.2.2.2.2.1,h.2.2.2.2.2.2.2.1⟩
 | .Act,h=>⟨h.1,h.2.1,h.2.2.1,h.2.2.2.1⟩
 | .BT,h=>⟨h.1,h.2.1,h.2.2.1,h.2.2.2.1,h.2.2.2.2.1,h.2.2.2.2.2.1⟩
 | .Ask,h=>⟨h.1,h.2.1,h.2.2.1⟩
 | .eM,h=>⟨yq se .bool 12 h,Wv se _ _ h⟩
def Mb:TypeId->Option (GC se)
 | 119=>some ⟨SI.eM,.bool,λx=>x.l,O1⟩
 | 120=>some ⟨SI.cP,.bool,λx=>x.l,dK⟩
 | 121=>some ⟨SI.cP,.bool,λx=>x.l,dK⟩
 | 252=>some ⟨SI.fi,(.int .i64),λx=>x.l,wP⟩
 |_=>none
theorem apO:∀t a,Mb t=some a->a.c.one=true/\(∀ x,Tu a.i x=((a.f x).map (CT.row se a.c)).flatten)/\∀l x,a.g l=some x->a.f x=l:=by
 intro t a h;unfold Mb at h;split at h
 ·cases h;refine⟨rfl,λx=>KZ se .bool (λ y=> .sc (.bool y)) (λ _=>rfl) x.l,λl x hl=>?_⟩
  replace hl:O1 l=some x:=hl
  unfold O1 at hl;split at hl
  ·cases hl;rfl
  ·cases hl
 ·cases h;refine⟨rfl,λx=>KZ se .bool (λ y=> .sc (.bool y)) (λ _=>rfl) x.l,λl x hl=>?_⟩
  replace hl:dK l=some x:=hl
  unfold dK at hl;split at hl
  ·cases hl;rfl
  ·cases hl
 ·cases h;refine⟨rfl,λx=>KZ se .bool (λ y=> .sc (.bool y)) (λ _=>rfl) x.l,λl x hl=>?_⟩
  replace hl:dK l=some x:=hl
  unfold dK at hl;split at hl
  ·cases hl;rfl
  ·cases hl
 ·cases h;refine⟨rfl,λx=>KZ se (.int .i64) (λ y=> .sc (.int .i64 y)) (λ _=>rfl) x.l,λl x hl=>?_⟩
  replace hl:wP l=some x:=hl
  unfold wP at hl;split at hl
  ·cases hl;rfl
  ·cases hl
 ·cases h
def gvS:Nat->Option ((c:CT SI)×CT.T se c):=λ_=>none
def xx:SX:={ toSE:=se,cQ:=Nx,get:=aqP,make:=aqy,kA:=by intro i x;cases i;(case cP=>exact Ww se .bool (λ y=> .sc (.bool y)) (λ _=>rfl) _ _ _);(case fi=>exact Ww se (.int .i64) (λ y=> .sc (.int .i64 y)) (λ _=>rfl) _ _ _);(case eM=>exact Ww se .bool (λ y=> .sc (.bool y)) (λ _=>rfl) _ _ _);all_goals first |rfl |exact YL _,eK:=by intro i h;cases i;(case cP=>exact Qj se .bool (λ y=> .sc (.bool y)) (λ _=>rfl) _ _);(case fi=>exact Qj se (.int .i64) (λ y=> .sc (.int .i64 y)) (λ _=>rfl) _ _);(case eM=>exact Qj se .bool (λ y=> .sc (.bool y)) (λ _=>rfl) _ _);all_goals first |rfl |exact YL _,flat:=by intro i;cases i<;>rfl,gv:=gvS,t9:=λ_=>rfl,ar:=Mb,i8:=apO }
abbrev dk:Value:=.slice none 0 0
abbrev cR:Value:=.int .i64 0
abbrev s6:Value:=.bool false
abbrev iv:Value:=.string ⟨#[]⟩
def tab:List (TypeId×ky):=[
 (3,⟨1,8,false,[cR],.int .i64,[]⟩),
 (4,⟨1,1,false,[s6],.bool,[]⟩),
 (5,⟨1,1,false,[.int .u8 0],.int .u8,[]⟩),
 (9,⟨1,16,false,[iv],.str,[]⟩),
 (22,⟨1,24,false,[dk],.slice 304,[]⟩),
 (23,⟨1,24,false,[dk],.slice 231,[]⟩),
 (24,⟨1,24,false,[dk],.slice 307,[]⟩),
 (25,⟨1,24,false,[dk],.slice 90,[]⟩),
 (26,⟨1,24,false,[dk],.slice 309,[]⟩),
 (27,⟨1,24,false,[dk],.slice 313,[]⟩),
 (28,⟨1,24,false,[dk],.slice 311,[]⟩),
 (30,⟨8,176,true,[dk,dk,dk,dk,dk,dk,dk,cR],.struct [(0,22),(1,23),(2,24),(3,25),(4,26),(5,27),(6,28),(7,3)],[]⟩),
 (31,⟨1,24,false,[dk],.slice 83,[]⟩),
 (32,⟨1,24,false,[dk],.slice 134,[]⟩),
 (33,⟨1,24,false,[dk],.slice 315,[]⟩),
 (34,⟨1,24,false,[dk],.slice 317,[]⟩),
 (35,⟨1,24,false,[dk],.slice 110,[]⟩),
 (37,⟨13,296,true,[dk,dk,dk,dk,dk,dk,dk,cR,dk,dk,dk,dk,dk],.struct [(0,30),(8,31),(9,32),(10,33),(11,34),(12,35)],[]⟩),
 (38,⟨1,24,false,[dk],.slice 80,[]⟩),
 (40,⟨2,32,true,[cR,dk],.struct [(0,3),(1,38)],[]⟩),
 (41,⟨1,24,false,[dk],.slice 9,[]⟩),
 (42,⟨1,24,false,[dk],.slice 70,[]⟩),
 (43,⟨1,24,false,[dk],.slice 63,[]⟩),
 (44,⟨1,24,false,[dk],.slice 3,[]⟩),
 (46,⟨3,40,true,[cR,dk,s6],.struct [(0,3),(1,44),(2,4)],[]⟩),
 (63,⟨3,40,true,[cR,dk,s6],.struct [(0,3),(1,44),(2,4)],[]⟩),
 (68,⟨1,24,false,[dk],.slice 132,[]⟩),
 (70,⟨2,32,true,[cR,dk],.struct [(0,3),(1,68)],[]⟩),
 (73,⟨4,32,true,[cR,cR,cR,cR],.struct [(0,3),(1,3),(2,3),(3,3)],[0,0,0,0]⟩),
 (75,⟨6,48,true,[cR,cR,cR,cR,cR,cR],.struct [(0,73),(4,3),(5,3)],[]⟩),
 (77,⟨9,72,true,[cR,cR,cR,cR,cR,cR,cR,cR,s6],.struct [(0,75),(6,3),(7,3),(8,4)],[]⟩),
 (78,⟨1,24,false,[dk],.slice 77,[]⟩),
 (80,⟨2,48,true,[dk,dk],.struct [(0,78),(1,35)],[]⟩),
 (81,⟨1,24,false,[dk],.slice 73,[]⟩),
 (83,⟨4,64,true,[cR,cR,dk,dk],.struct [(0,3),(1,3),(2,81),(3,44)],[]⟩),
 (84,⟨1,24,false,[dk],.slice 86,[]⟩),
 (86,⟨5,72,true,[cR,cR,iv,iv,dk],.struct [(0,3),(1,3),(2,9),(3,9),(4,84)],[]⟩),
 (88,⟨4,32,true,[cR,cR,cR,cR],.struct [(0,3),(1,3),(2,3),(3,3)],[0,0,0,0]⟩),
 (90,⟨20,232,true,[iv,dk,dk,cR,cR,cR,s6,cR,cR,cR,iv,iv,dk,cR,cR,cR,cR,cR,cR,cR],.struct [(0,9),(1,41),(2,41),(3,3),(4,3),(5,3),(6,4),(7,3),(8,86),(13,88),(17,3),(18,3),(19,3)],[]⟩),
 (93,⟨1,24,false,[dk],.slice 40,[]⟩),
 (95,⟨8,80,true,[cR,cR,cR,cR,cR,dk,cR,cR],.struct [(0,3),(1,3),(2,3),(3,3),(4,3),(5,93),(6,3),(7,3)],[]⟩),
 (103,⟨1,8,false,[.nilFunc],.other,[]⟩),
 (106,⟨4,32,true,[.nilFunc,.nilFunc,.nilFunc,.nilFunc],.arr 4 103,[]⟩),
 (110,⟨2,24,true,[iv,cR],.struct [(0,9),(1,3)],[2,0]⟩),
 (111,⟨1,8,false,[.nilFunc],.other,[]⟩),
 (119,⟨12,12,true,(.replicate 12 (s6)),.arr 12 4,[9]⟩),
 (121,⟨144,144,true,(.replicate 144 (s6)),.arr 12 119,[9]⟩),
 (125,⟨1,24,false,[dk],.slice 173,[]⟩),
 (126,⟨1,24,false,[dk],.slice 173,[]⟩),
 (132,⟨2,16,true,[cR,cR],.arr 2 3,[]⟩),
 (134,⟨3,40,true,[cR,dk,cR],.struct [(0,3),(1,81),(2,3)],[]⟩),
 (135,⟨1,24,false,[dk],.slice 138,[]⟩),
 (138,⟨4,48,true,[cR,cR,cR,dk],.struct [(0,3),(1,3),(2,3),(3,93)],[]⟩),
 (144,⟨1,24,false,[dk],.slice 81,[]⟩),
 (171,⟨1,8,false,[.map none],.map 3 4,[]⟩),
 (172,⟨1,24,false,[dk],.slice 4,[]⟩),
 (173,⟨1,24,false,[dk],.slice 172,[]⟩),
 (179,⟨1,8,false,[.int .u64 0],.int .u64,[]⟩),
 (180,⟨1,8,false,[.pointer none],.other,[]⟩),
 (182,⟨10,224,true,[dk,dk,dk,dk,dk,dk,dk,cR,dk,dk],.struct [(0,30),(8,81),(9,78)],[]⟩),
 (186,⟨1,8,false,[.nilFunc],.other,[]⟩),
 (187,⟨2,24,true,[iv,.nilFunc],.struct [(0,9),(1,186)],[]⟩),
 (188,⟨18,216,true,[iv,.nilFunc,iv,.nilFunc,iv,.nilFunc,iv,.nilFunc,iv,.nilFunc,iv,.nilFunc,iv,.nilFunc,iv,.nilFunc,iv,.nilFunc],.arr 9 187,[]⟩),
 (196,⟨1,8,false,[.map none],.map 4 4,[]⟩),
 (209,⟨1,4,false,[.int .u32 0],.int .u32,[]⟩),
 (211,⟨1,8,false,[.int .u64 0],.int .u64,[]⟩),
 (231,⟨3,48,true,[iv,dk,cR],.struct [(0,9),(1,35),(2,3)],[]⟩),
 (236,⟨1,8,false,[.int .u64 0],.int .u64,[]⟩),
 (243,⟨1,24,false,[dk],.slice 261,[]⟩),
 (252,⟨12,96,true,[cR,cR,cR,cR,cR,cR,cR,cR,cR,cR,cR,cR],.arr 12 3,[]⟩),
 (257,⟨1,24,false,[dk],.slice 259,[]⟩),
 (259,⟨2,16,true,[cR,cR],.struct [(0,3),(1,3)],[0,0]⟩),
 (261,⟨3,40,true,[cR,cR,dk],.struct [(0,3),(1,3),(2,257)],[]⟩),
 (270,⟨6,96,true,[iv,iv,iv,iv,iv,iv],.arr 6 9,[]⟩),
 (304,⟨6,88,true,[iv,cR,cR,iv,iv,dk],.struct [(0,9),(1,86)],[]⟩),
 (305,⟨1,24,false,[dk],.slice 320,[]⟩),
 (307,⟨3,48,true,[iv,s6,dk],.struct [(0,9),(1,4),(2,305)],[]⟩),
 (309,⟨4,56,true,[iv,cR,cR,dk],.struct [(0,9),(1,3),(2,3),(3,305)],[]⟩),
 (311,⟨3,24,true,[cR,cR,cR],.struct [(0,3),(1,3),(2,3)],[0,0,0]⟩),
 (313,⟨6,72,true,[iv,cR,cR,cR,cR,dk],.struct [(0,9),(1,311),(4,3),(5,28)],[]⟩),
 (315,⟨4,32,true,[cR,cR,cR,cR],.struct [(0,3),(1,311)],[]⟩),
 (317,⟨10,80,true,[cR,cR,cR,cR,cR,cR,cR,cR,cR,s6],.struct [(0,3),(1,77)],[]⟩),
 (320,⟨2,16,true,[cR,cR],.struct [(0,3),(1,3)],[0,0]⟩)]
def aqz:List (TypeId×CT SI):=[(3,(.int .i64)),(4,.bool),(9,.str),(40,(.st SI.df)),(44,(.sl (.int .i64))),(63,(.st SI.Case)),(70,(.st SI.Order)),(73,(.st SI.ir)),(77,(.st SI.gd)),(80,(.st SI.Phase)),(81,(.sl (.st SI.ir))),(83,(.st SI.Lot)),(90,(.st SI.Rule)),(110,(.st SI.Entry)),(132,(.st SI.iu)),(172,(.sl .bool)),(173,(.sl (.sl .bool))),(259,(.st SI.span)),(261,(.st SI.strip))]
def T6:TypeId->Option (CT xx.ι):=lk aqz
theorem T5:fE Tryz.prog (XL tab):=amA (by kernel_rfl)
theorem mixed:Tryz.prog.follows .mixedOrders=true:=Checked.mixed Tryz.checked
theorem cq{f:FuncId}{fn:Func}{l:List (FuncId×bt xx)}(hΓ:pb Tryz.prog (tw l))(hfn:Tryz.prog.funcs[f]? =some fn){s:bt xx}(h:Hn SI)(n:Nat)
 (hq : (fn.body.isSome && !(fn.name == "runtime.NumGoroutine") && decide (s.args.length <= fn.ntmps /\ qH s.args <= 1000 /\ (s.res.filter RT.out).length = qH s.args)) = true := by kernel_rfl) (hg : s.gen = none := by rfl)
 (hr:∀a,run (tw l) (XL tab) T6 fn.ntmps n (fn.body.getD .skip) (uh xx s.res) h (tg s.args a) (TZ (XL tab) fn.results.toList s.res)=s.fn a:=by intro _;kernel_rfl):sY Tryz.prog f s:=by
 rw[aD,aD]at hq;obtain⟨⟨q1,q2⟩,q3⟩:=hq;have hb:fn.body=some (fn.body.getD .skip):=by
  cases hc:fn.body with
  |none=>rw[hc]at q1;cases q1
  |some c=>rfl
 have hn : (fn.name == "runtime.NumGoroutine") = false := by simpa using q2
 exact Ek (mO hfn hb hn) (λ a _ e=>aqs T5 mixed hΓ hfn hb hn _ _ (of_decide_eq_true q3) h n ((hr a).trans e)) hg
theorem ml{f:FuncId}{fn:Func}{l:List (FuncId×bt xx)}(hΓ:pb Tryz.prog (tw l))(hfn:Tryz.prog.funcs[f]? =some fn){g:cM xx}(h:Hn SI)(n:Nat)
 (hq : (fn.body.isSome && !(fn.name == "runtime.NumGoroutine") && decide (g.mf.length <= fn.ntmps) && g.vn) = true)
 (hr:∀v,run (tw l) (XL tab) T6 fn.ntmps n (fn.body.getD .skip) (VT (X:=xx) (Ee g).vars) h (AH g v) (UP (XL tab) fn.results.toList g)=g.fn v):sY Tryz.prog f ⟨[],[.d .bool],λ_=>none,some g⟩:=by
 rw[aD,aD,aD]at hq;obtain⟨⟨⟨q1,q2⟩,q3⟩,q4⟩:=hq;have hb:fn.body=some (fn.body.getD .skip):=by
  cases hc:fn.body with
  |none=>rw[hc]at q1;cases q1
  |some c=>rfl
 have hn : (fn.name == "runtime.NumGoroutine") = false := by simpa using q2
 exact TX (mO hfn hb hn) (apG T5 mixed hΓ hfn hb hn g (of_decide_eq_true q3) q4 h n (λ v _ e=>(hr v).trans e))
theorem gcn:pb Tryz.prog (tw ([]:List (FuncId×bt xx))):=aA
abbrev af:CT SI:=.int .i64
abbrev cO:CT SI:=.st SI.Order
abbrev ax:CT SI:=.st SI.ir
abbrev jd:CT SI:=.st SI.Lot
abbrev aL:CT SI:=.st SI.gd
abbrev eH:CT SI:=.st SI.df
abbrev bX:CT SI:=.st SI.Def
abbrev bE:CT SI:=.st SI.Table
abbrev bK:CT SI:=.st SI.Zone
abbrev bC:CT SI:=.st SI.Rule
abbrev bY:CT SI:=.st SI.Cap
abbrev bq:CT SI:=.st SI.fX
abbrev bL:CT SI:=.st SI.View
abbrev bA:CT SI:=.st SI.Case
abbrev aI(f:Nat)(s:bt xx):Prop:=sY Tryz.prog f s
abbrev gZ:=(List qI)×(List fH)×(List jG)×(List dL)×(List qJ)×(List jH)×(List eZ)×Int×(List ay)×(List aQ)
end Go.Proofs
