import Derived.Test.YtnagaonenljjiaaGreatH1
import Derived.Test.YtnagaonenljjiaaGreatChecked
namespace Go.Proofs
open Go.Gb Go.RowKit
structure bK where
 op:Int
 n:Int
 s:ByteArray
 key:ByteArray
 args:(List bK)
mutual
def rQ:bK->List Tree
 |⟨f0,f1,f2,f3,f4⟩=>[.sc (.int .i64 f0),.sc (.int .i64 f1),.sc (.string f2),.sc (.string f3),.sl (um f4)]
def um:List bK->List (List Tree)
 |[]=>[]
 |x::xs=>rQ x::um xs
end
theorem uo:∀l:List bK,um l=l.map rQ
 |[]=>rfl
 |x::xs=>by rw[um,uo xs];rfl
theorem XC(x:bK):rQ x=[.sc (.int .i64 x.op),.sc (.int .i64 x.n),.sc (.string x.s),.sc (.string x.key),.sl (x.args.map rQ)]:=by cases x;simp only[rQ,uo]
structure ay where
 x0:Int
 y0:Int
 x1:Int
 y1:Int
 deriving DecidableEq,Inhabited
def Lr(x:ay):List Tree:=[.sc (.int .i64 x.x0),.sc (.int .i64 x.y0),.sc (.int .i64 x.x1),.sc (.int .i64 x.y1)]
structure gY where
 id:Int
 owner:Int
 area:(List ay)
 from_:(List Int)
 deriving DecidableEq,Inhabited
def Nn(x:gY):List Tree:=[.sc (.int .i64 x.id),.sc (.int .i64 x.owner),.sl (x.area.map Lr),.sl (x.from_.map (λ y=>[.sc (.int .i64 y)]))]
structure aF where
 bx:Int
 b9:Int
 bu:Int
 b8:Int
 er:Int
 d5:Int
 use:Int
 units:Int
 extra:Bool
 deriving DecidableEq,Inhabited
def Ls(x:aF):List Tree:=[.sc (.int .i64 x.bx),.sc (.int .i64 x.b9),.sc (.int .i64 x.bu),.sc (.int .i64 x.b8),.sc (.int .i64 x.er),.sc (.int .i64 x.d5),.sc (.int .i64 x.use),.sc (.int .i64 x.units),.sc (.bool x.extra)]
structure bP where
 name:ByteArray
 n:Int
 deriving DecidableEq,Inhabited
def Kj(x:bP):List Tree:=[.sc (.string x.name),.sc (.int .i64 x.n)]
structure iG where
 cm:(List aF)
 gives:(List bP)
 deriving DecidableEq,Inhabited
def XD(x:iG):List Tree:=[.sl (x.cm.map Ls),.sl (x.gives.map Kj)]
structure bf where
 lot:Int
 phases:(List iG)
 deriving DecidableEq,Inhabited
def agq(x:bf):List Tree:=[.sc (.int .i64 x.lot),.sl (x.phases.map XD)]
structure By where
 ot:Int
 oc:Int
 oe:Int
 oa:Int
 z0:Int
 z1:Int
 deriving DecidableEq,Inhabited
def anh(x:By):List Tree:=[.sc (.int .i64 x.ot),.sc (.int .i64 x.oc),.sc (.int .i64 x.oe),.sc (.int .i64 x.oa),.sc (.int .i64 x.z0),.sc (.int .i64 x.z1)]
structure aD where
 from_:Int
 to:Int
 deriving DecidableEq,Inhabited
def ahR(x:aD):List Tree:=[.sc (.int .i64 x.from_),.sc (.int .i64 x.to)]
structure bQ where
 x0:Int
 x1:Int
 column:(List aD)
 deriving DecidableEq,Inhabited
def akH(x:bQ):List Tree:=[.sc (.int .i64 x.x0),.sc (.int .i64 x.x1),.sl (x.column.map ahR)]
structure dH where
 x:Int
 y:Int
 deriving DecidableEq,Inhabited
def XE(x:dH):List Tree:=[.sc (.int .i64 x.x),.sc (.int .i64 x.y)]
structure ic where
 name:ByteArray
 load:Int
 limit:Int
 corners:(List dH)
 deriving DecidableEq,Inhabited
def XF(x:ic):List Tree:=[.sc (.string x.name),.sc (.int .i64 x.load),.sc (.int .i64 x.limit),.sl (x.corners.map XE)]
structure fJ where
 name:ByteArray
 ir:Int
 ly:Int
 kf:ByteArray
 il:ByteArray
 eo:(List bK)
def GL(x:fJ):List Tree:=[.sc (.string x.name),.sc (.int .i64 x.ir),.sc (.int .i64 x.ly),.sc (.string x.kf),.sc (.string x.il),.sl (x.eo.map rQ)]
structure bW where
 name:ByteArray
 rows:(List bP)
 rj:Int
 deriving DecidableEq,Inhabited
def Kk(x:bW):List Tree:=[.sc (.string x.name),.sl (x.rows.map Kj),.sc (.int .i64 x.rj)]
structure dW where
 name:ByteArray
 overlay:Bool
 corners:(List dH)
 deriving DecidableEq,Inhabited
def O5(x:dW):List Tree:=[.sc (.string x.name),.sc (.bool x.overlay),.sl (x.corners.map XE)]
structure aQ where
 name:ByteArray
 zones:(List ByteArray)
 except:(List ByteArray)
 from_:Int
 cC:Int
 ws:Int
 vary:Bool
 kind:Int
 ky:Int
 ml:Int
 mj:ByteArray
 i6:ByteArray
 fW:(List bK)
 ie:Int
 ii:Int
 i7:Int
 i8:Int
 uses:Int
 other:Int
 n:Int
def zb(x:aQ):List Tree:=[.sc (.string x.name),.sl (x.zones.map (λ y=>[.sc (.string y)])),.sl (x.except.map (λ y=>[.sc (.string y)])),.sc (.int .i64 x.from_),.sc (.int .i64 x.cC),.sc (.int .i64 x.ws),.sc (.bool x.vary),.sc (.int .i64 x.kind),.sc (.int .i64 x.ky),.sc (.int .i64 x.ml),.sc (.string x.mj),.sc (.string x.i6),.sl (x.fW.map rQ),.sc (.int .i64 x.ie),.sc (.int .i64 x.ii),.sc (.int .i64 x.i7),.sc (.int .i64 x.i8),.sc (.int .i64 x.uses),.sc (.int .i64 x.other),.sc (.int .i64 x.n)]
structure bU where
 x:Int
 y:Int
 z:Int
 deriving DecidableEq,Inhabited
def zW(x:bU):List Tree:=[.sc (.int .i64 x.x),.sc (.int .i64 x.y),.sc (.int .i64 x.z)]
structure fG where
 name:ByteArray
 xa:Int
 wA:Int
 wy:Int
 least:Int
 targets:(List bU)
 deriving DecidableEq,Inhabited
def O6(x:fG):List Tree:=[.sc (.string x.name),.sc (.int .i64 x.xa),.sc (.int .i64 x.wA),.sc (.int .i64 x.wy),.sc (.int .i64 x.least),.sl (x.targets.map zW)]
structure cK where
 defs:(List fJ)
 tables:(List bW)
 zones:(List dW)
 rules:(List aQ)
 caps:(List ic)
 views:(List fG)
 nr:(List bU)
 hours:Int
def alY(x:cK):List Tree:=[.sl (x.defs.map GL),.sl (x.tables.map Kk),.sl (x.zones.map O5),.sl (x.rules.map zb),.sl (x.caps.map XF),.sl (x.views.map O6),.sl (x.nr.map zW),.sc (.int .i64 x.hours)]
structure jB where
 lz:Int
 pn:Int
 ma:Int
 tm:Int
 deriving DecidableEq,Inhabited
def alZ(x:jB):List Tree:=[.sc (.int .i64 x.lz),.sc (.int .i64 x.pn),.sc (.int .i64 x.ma),.sc (.int .i64 x.tm)]
structure oJ where
 lot:Int
 area:(List ay)
 top:Int
 deriving DecidableEq,Inhabited
def Kl(x:oJ):List Tree:=[.sc (.int .i64 x.lot),.sl (x.area.map Lr),.sc (.int .i64 x.top)]
structure Ve where
 lot:Int
 HF:Int
 HE:Int
 HD:Int
 deriving DecidableEq,Inhabited
def Rh(x:Ve):List Tree:=[.sc (.int .i64 x.lot),.sc (.int .i64 x.HF),.sc (.int .i64 x.HE),.sc (.int .i64 x.HD)]
structure dw where
 lot:Int
 ed:Int
 d7:Int
 d8:Int
 d6:Int
 li:Int
 lh:Int
 eW:Int
 lL:Int
 lO:Bool
 deriving DecidableEq,Inhabited
def Ri(x:dw):List Tree:=[.sc (.int .i64 x.lot),.sc (.int .i64 x.ed),.sc (.int .i64 x.d7),.sc (.int .i64 x.d8),.sc (.int .i64 x.d6),.sc (.int .i64 x.li),.sc (.int .i64 x.lh),.sc (.int .i64 x.eW),.sc (.int .i64 x.lL),.sc (.bool x.lO)]
structure fE where
 ct:(List fJ)
 cj:(List bW)
 cd:(List dW)
 az:(List aQ)
 cD:(List ic)
 cw:(List fG)
 cQ:(List bU)
 cx:Int
 land:(List gY)
 co:(List oJ)
 windows:(List Ve)
 built:(List dw)
 base:(List bP)
def Lu(x:fE):List Tree:=[.sl (x.ct.map GL),.sl (x.cj.map Kk),.sl (x.cd.map O5),.sl (x.az.map zb),.sl (x.cD.map XF),.sl (x.cw.map O6),.sl (x.cQ.map zW),.sc (.int .i64 x.cx),.sl (x.land.map Nn),.sl (x.co.map Kl),.sl (x.windows.map Rh),.sl (x.built.map Ri),.sl (x.base.map Kj)]
structure mI where
 fi:(List fJ)
 ey:(List bW)
 eM:(List dW)
 eR:(List aQ)
 fj:(List ic)
 eQ:(List fG)
 gc:(List bU)
 eS:Int
 pC:(List gY)
 j7:(List oJ)
 lP:(List Ve)
 fS:(List dw)
 pD:(List bP)
 sf:Int
 mn:Int
 ka:(List ay)
 oR:(List Int)
 dy:Int
 ik:(List iG)
 cm:(List aF)
 zones:(List ByteArray)
def akI(x:mI):List Tree:=[.sl (x.fi.map GL),.sl (x.ey.map Kk),.sl (x.eM.map O5),.sl (x.eR.map zb),.sl (x.fj.map XF),.sl (x.eQ.map O6),.sl (x.gc.map zW),.sc (.int .i64 x.eS),.sl (x.pC.map Nn),.sl (x.j7.map Kl),.sl (x.lP.map Rh),.sl (x.fS.map Ri),.sl (x.pD.map Kj),.sc (.int .i64 x.sf),.sc (.int .i64 x.mn),.sl (x.ka.map Lr),.sl (x.oR.map (λ y=>[.sc (.int .i64 y)])),.sc (.int .i64 x.dy),.sl (x.ik.map XD),.sl (x.cm.map Ls),.sl (x.zones.map (λ y=>[.sc (.string y)]))]
structure amF where
 ct:(List fJ)
 cj:(List bW)
 cd:(List dW)
 az:(List aQ)
 cD:(List ic)
 cw:(List fG)
 cQ:(List bU)
 cx:Int
 area:(List ay)
 cm:(List aF)
def al0(x:amF):List Tree:=[.sl (x.ct.map GL),.sl (x.cj.map Kk),.sl (x.cd.map O5),.sl (x.az.map zb),.sl (x.cD.map XF),.sl (x.cw.map O6),.sl (x.cQ.map zW),.sc (.int .i64 x.cx),.sl (x.area.map Lr),.sl (x.cm.map Ls)]
structure Lv where
 a0:ByteArray
 a1:ByteArray
 a2:ByteArray
 a3:ByteArray
 a4:ByteArray
 a5:ByteArray
 deriving DecidableEq,Inhabited
def ai1(x:Lv):List Tree:=[.sc (.string x.a0),.sc (.string x.a1),.sc (.string x.a2),.sc (.string x.a3),.sc (.string x.a4),.sc (.string x.a5)]
structure pG where
 defs:(List fJ)
 uses:(List (List Int))
def akJ(x:pG):List Tree:=[.sl (x.defs.map GL),.sl (x.uses.map (λ y=>[.sl (y.map (λ y=>[.sc (.int .i64 y)]))]))]
structure fH where
 z0:Int
 z1:Int
 area:(List ay)
 deriving DecidableEq,Inhabited
def al1(x:fH):List Tree:=[.sc (.int .i64 x.z0),.sc (.int .i64 x.z1),.sl (x.area.map Lr)]
structure dQ where
 side:Int
 base:Int
 num:Int
 den:Int
 deriving DecidableEq,Inhabited
def akK(x:dQ):List Tree:=[.sc (.int .i64 x.side),.sc (.int .i64 x.base),.sc (.int .i64 x.num),.sc (.int .i64 x.den)]
structure O7 where
 a0:Int
 a1:Int
 a2:Int
 a3:Int
 deriving DecidableEq,Inhabited
def ai2(x:O7):List Tree:=[.sc (.int .i64 x.a0),.sc (.int .i64 x.a1),.sc (.int .i64 x.a2),.sc (.int .i64 x.a3)]
inductive SI where
 |Expr
 |km
 |Lot
 |iz
 |Entry
 |Phase
 |gd
 |CD
 |span
 |strip
 |iu
 |Cap
 |Def
 |Table
 |Zone
 |Rule
 |gC
 |View
 |ld
 |side
 |fp
 |Window
 |gb
 |ju
 |j8
 |site
 |mA
 |graph
 |k9
 |gi
 |mC
 deriving DecidableEq
@[reducible] def TT:SI->Type
 | .Expr=>bK
 | .km=>ay
 | .Lot=>gY
 | .iz=>aF
 | .Entry=>bP
 | .Phase=>iG
 | .gd=>bf
 | .CD=>By
 | .span=>aD
 | .strip=>bQ
 | .iu=>dH
 | .Cap=>ic
 | .Def=>fJ
 | .Table=>bW
 | .Zone=>dW
 | .Rule=>aQ
 | .gC=>bU
 | .View=>fG
 | .ld=>cK
 | .side=>jB
 | .fp=>oJ
 | .Window=>Ve
 | .gb=>dw
 | .ju=>fE
 | .j8=>mI
 | .site=>amF
 | .mA=>Lv
 | .graph=>pG
 | .k9=>fH
 | .gi=>dQ
 | .mC=>O7
def an7:(i:SI)->TT i->List Tree
 | .Expr,x=>rQ x
 | .km,x=>Lr x
 | .Lot,x=>Nn x
 | .iz,x=>Ls x
 | .Entry,x=>Kj x
 | .Phase,x=>XD x
 | .gd,x=>agq x
 | .CD,x=>anh x
 | .span,x=>ahR x
 | .strip,x=>akH x
 | .iu,x=>XE x
 | .Cap,x=>XF x
 | .Def,x=>GL x
 | .Table,x=>Kk x
 | .Zone,x=>O5 x
 | .Rule,x=>zb x
 | .gC,x=>zW x
 | .View,x=>O6 x
 | .ld,x=>alY x
 | .side,x=>alZ x
 | .fp,x=>Kl x
 | .Window,x=>Rh x
 | .gb,x=>Ri x
 | .ju,x=>Lu x
 | .j8,x=>akI x
 | .site,x=>al0 x
 | .mA,x=>ai1 x
 | .graph,x=>akJ x
 | .k9,x=>al1 x
 | .gi,x=>akK x
 | .mC,x=>ai2 x
def se:SE:=⟨SI,inferInstance,TT,an7⟩
def SM:SI->List (CT SI)
 | .Expr=>[(.int .i64),(.int .i64),.str,.str,(.sl (.st SI.Expr))]
 | .km=>[(.int .i64),(.int .i64),(.int .i64),(.int .i64)]
 | .Lot=>[(.int .i64),(.int .i64),(.sl (.st SI.km)),(.sl (.int .i64))]
 | .iz=>[(.int .i64),(.int .i64),(.int .i64),(.int .i64),(.int .i64),(.int .i64),(.int .i64),(.int .i64),.bool]
 | .Entry=>[.str,(.int .i64)]
 | .Phase=>[(.sl (.st SI.iz)),(.sl (.st SI.Entry))]
 | .gd=>[(.int .i64),(.sl (.st SI.Phase))]
 | .CD=>[(.int .i64),(.int .i64),(.int .i64),(.int .i64),(.int .i64),(.int .i64)]
 | .span=>[(.int .i64),(.int .i64)]
 | .strip=>[(.int .i64),(.int .i64),(.sl (.st SI.span))]
 | .iu=>[(.int .i64),(.int .i64)]
 | .Cap=>[.str,(.int .i64),(.int .i64),(.sl (.st SI.iu))]
 | .Def=>[.str,(.int .i64),(.int .i64),.str,.str,(.sl (.st SI.Expr))]
 | .Table=>[.str,(.sl (.st SI.Entry)),(.int .i64)]
 | .Zone=>[.str,.bool,(.sl (.st SI.iu))]
 | .Rule=>[.str,(.sl .str),(.sl .str),(.int .i64),(.int .i64),(.int .i64),.bool,(.int .i64),(.int .i64),(.int .i64),.str,.str,(.sl (.st SI.Expr)),(.int .i64),(.int .i64),(.int .i64),(.int .i64),(.int .i64),(.int .i64),(.int .i64)]
 | .gC=>[(.int .i64),(.int .i64),(.int .i64)]
 | .View=>[.str,(.int .i64),(.int .i64),(.int .i64),(.int .i64),(.sl (.st SI.gC))]
 | .ld=>[(.sl (.st SI.Def)),(.sl (.st SI.Table)),(.sl (.st SI.Zone)),(.sl (.st SI.Rule)),(.sl (.st SI.Cap)),(.sl (.st SI.View)),(.sl (.st SI.gC)),(.int .i64)]
 | .side=>[(.int .i64),(.int .i64),(.int .i64),(.int .i64)]
 | .fp=>[(.int .i64),(.sl (.st SI.km)),(.int .i64)]
 | .Window=>[(.int .i64),(.int .i64),(.int .i64),(.int .i64)]
 | .gb=>[(.int .i64),(.int .i64),(.int .i64),(.int .i64),(.int .i64),(.int .i64),(.int .i64),(.int .i64),(.int .i64),.bool]
 | .ju=>[(.sl (.st SI.Def)),(.sl (.st SI.Table)),(.sl (.st SI.Zone)),(.sl (.st SI.Rule)),(.sl (.st SI.Cap)),(.sl (.st SI.View)),(.sl (.st SI.gC)),(.int .i64),(.sl (.st SI.Lot)),(.sl (.st SI.fp)),(.sl (.st SI.Window)),(.sl (.st SI.gb)),(.sl (.st SI.Entry))]
 | .j8=>[(.sl (.st SI.Def)),(.sl (.st SI.Table)),(.sl (.st SI.Zone)),(.sl (.st SI.Rule)),(.sl (.st SI.Cap)),(.sl (.st SI.View)),(.sl (.st SI.gC)),(.int .i64),(.sl (.st SI.Lot)),(.sl (.st SI.fp)),(.sl (.st SI.Window)),(.sl (.st SI.gb)),(.sl (.st SI.Entry)),(.int .i64),(.int .i64),(.sl (.st SI.km)),(.sl (.int .i64)),(.int .i64),(.sl (.st SI.Phase)),(.sl (.st SI.iz)),(.sl .str)]
 | .site=>[(.sl (.st SI.Def)),(.sl (.st SI.Table)),(.sl (.st SI.Zone)),(.sl (.st SI.Rule)),(.sl (.st SI.Cap)),(.sl (.st SI.View)),(.sl (.st SI.gC)),(.int .i64),(.sl (.st SI.km)),(.sl (.st SI.iz))]
 | .mA=>[.str,.str,.str,.str,.str,.str]
 | .graph=>[(.sl (.st SI.Def)),(.sl (.sl (.int .i64)))]
 | .k9=>[(.int .i64),(.int .i64),(.sl (.st SI.km))]
 | .gi=>[(.int .i64),(.int .i64),(.int .i64),(.int .i64)]
 | .mC=>[(.int .i64),(.int .i64),(.int .i64),(.int .i64)]
def an8:(i:SI)->TT i->HL se (SM i)
 | .Expr,x=>(x.op,x.n,x.s,x.key,x.args,())
 | .km,x=>(x.x0,x.y0,x.x1,x.y1,())
 | .Lot,x=>(x.id,x.owner,x.area,x.from_,())
 | .iz,x=>(x.bx,x.b9,x.bu,x.b8,x.er,x.d5,x.use,x.units,x.extra,())
 | .Entry,x=>(x.name,x.n,())
 | .Phase,x=>(x.cm,x.gives,())
 | .gd,x=>(x.lot,x.phases,())
 | .CD,x=>(x.ot,x.oc,x.oe,x.oa,x.z0,x.z1,())
 | .span,x=>(x.from_,x.to,())
 | .strip,x=>(x.x0,x.x1,x.column,())
 | .iu,x=>(x.x,x.y,())
 | .Cap,x=>(x.name,x.load,x.limit,x.corners,())
 | .Def,x=>(x.name,x.ir,x.ly,x.kf,x.il,x.eo,())
 | .Table,x=>(x.name,x.rows,x.rj,())
 | .Zone,x=>(x.name,x.overlay,x.corners,())
 | .Rule,x=>(x.name,x.zones,x.except,x.from_,x.cC,x.ws,x.vary,x.kind,x.ky,x.ml,x.mj,x.i6,x.fW,x.ie,x.ii,x.i7,x.i8,x.uses,x.other,x.n,())
 | .gC,x=>(x.x,x.y,x.z,())
 | .View,x=>(x.name,x.xa,x.wA,x.wy,x.least,x.targets,())
 | .ld,x=>(x.defs,x.tables,x.zones,x.rules,x.caps,x.views,x.nr,x.hours,())
 | .side,x=>(x.lz,x.pn,x.ma,x.tm,())
 | .fp,x=>(x.lot,x.area,x.top,())
 | .Window,x=>(x.lot,x.HF,x.HE,x.HD,())
 | .gb,x=>(x.lot,x.ed,x.d7,x.d8,x.d6,x.li,x.lh,x.eW,x.lL,x.lO,())
 | .ju,x=>(x.ct,x.cj,x.cd,x.az,x.cD,x.cw,x.cQ,x.cx,x.land,x.co,x.windows,x.built,x.base,())
 | .j8,x=>(x.fi,x.ey,x.eM,x.eR,x.fj,x.eQ,x.gc,x.eS,x.pC,x.j7,x.lP,x.fS,x.pD,x.sf,x.mn,x.ka,x.oR,x.dy,x.ik,x.cm,x.zones,())
 | .site,x=>(x.ct,x.cj,x.cd,x.az,x.cD,x.cw,x.cQ,x.cx,x.area,x.cm,())
 | .mA,x=>(x.a0,x.a1,x.a2,x.a3,x.a4,x.a5,())
 | .graph,x=>(x.defs,x.uses,())
 | .k9,x=>(x.z0,x.z1,x.area,())
 | .gi,x=>(x.side,x.base,x.num,x.den,())
 | .mC,x=>(x.a0,x.a1,x.a2,x.a3,())
def anQ:(i:SI)->HL se (SM i)->TT i
 | .Expr,h=>⟨h.1,h.2.1,h.2.2.1,h.2.2.2.1,h.2.2.2.2.1⟩
 | .km,h=>⟨h.1,h.2.1,h.2.2.1,h.2.2.2.1⟩
 | .Lot,h=>⟨h.1,h.2.1,h.2.2.1,h.2.2.2.1⟩
 | .iz,h=>⟨h.1,h.2.1,h.2.2.1,h.2.2.2.1,h.2.2.2.2.1,h.2.2.2.2.2.1,h.2.2.2.2.2.2.1,h.2.2.2.2.2.2.2.1,h.2.2.2.2.2.2.2.2.1⟩
 | .Entry,h=>⟨h.1,h.2.1⟩
 | .Phase,h=>⟨h.1,h.2.1⟩
 | .gd,h=>⟨h.1,h.2.1⟩
 | .CD,h=>⟨h.1,h.2.1,h.2.2.1,h.2.2.2.1,h.2.2.2.2.1,h.2.2.2.2.2.1⟩
 | .span,h=>⟨h.1,h.2.1⟩
 | .strip,h=>⟨h.1,h.2.1,h.2.2.1⟩
 | .iu,h=>⟨h.1,h.2.1⟩
 | .Cap,h=>⟨h.1,h.2.1,h.2.2.1,h.2.2.2.1⟩
 | .Def,h=>⟨h.1,h.2.1,h.2.2.1,h.2.2.2.1,h.2.2.2.2.1,h.2.2.2.2.2.1⟩
 | .Table,h=>⟨h.1,h.2.1,h.2.2.1⟩
 | .Zone,h=>⟨h.1,h.2.1,h.2.2.1⟩
 | .Rule,h=>⟨h.1,h.2.1,h.2.2.1,h.2.2.2.1,h.2.2.2.2.1,h.2.2.2.2.2.1,h.2.2.2.2.2.2.1,h.2.2.2.2.2.2.2.1,h.2.2.2.2.2.2.2.2.1,h.2.2.2.2.2.2.2.2.2.1,h.2.2.2.2.2.2.2.2.2.2.1,h.2.2.2.2.2.2.2.2.2.2.2.1,h.2.2.2.2.2.2.2.2.2.2.2.2.1,h.2.2.2.2.2.2.2.2.2.2.2.2.2.1,h.2.2.2.2.2.2.2.2.2.2.2.2.2.2.1,h.2.2.2.2.2.2.2.2.2.2.2.2.2.2.2.1,h.2.2.2.2.2.2.2.2.2.2.2.2.2.2.2.2.1,h.2.2.2.2.2.2.2.2.2.2.2.2.2.2.2.2.2.1,h.2.2.2.2.2.2.2.2.2.2.2.2.2.2.2.2.2.2.1,h.2.2.2.2.2.2.2.2.2.2.2.2.2.2.2.2.2.2.2.1⟩
 | .gC,h=>⟨h.1,h.2.1,h.2.2.1⟩
 | .View,h=>⟨h.1,h.2.1,h.2.2.1,h.2.2.2.1,h.2.2.2.2.1,h.2.2.2.2.2.1⟩
 | .ld,h=>⟨h.1,h.2.1,h.2.2.1,h.2.2.2.1,h.2.2.2.2.1,h.2.2.2.2.2.1,h.2.2.2.2.2.2.1,h.2.2.2.2.2.2.2.1⟩
 | .side,h=>⟨h.1,h.2.1,h.2.2.1,h.2.2.2.1⟩
 | .fp,h=>⟨h.1,h.2.1,h.2.2.1⟩
 | .Window,h=>⟨h.1,h.2.1,h.2.2.1,h.2.2.2.1⟩
 | .gb,h=>⟨h.1,h.2.1,h.2.2.1,h.2.2.2.1,h.2.2.2.2.1,h.2.2.2.2.2.1,h.2.2.2.2.2.2.1,h.2.2.2.2.2.2.2.1,h.2.2.2.2.2.2.2.2.1,h.2.2.2.2.2.2.2.2.2.1⟩
 | .ju,h=>⟨h.1,h.2.1,h.2.2.1,h.2.2.2.1,h.2.2.2.2.1,h.2.2.2.2.2.1,h.2.2.2.2.2.2.1,h.2.2.2.2.2.2.2.1,h.2.2.2.2.2.2.2.2.1,h.2.2.2.2.2.2.2.2.2.1,h.2.2.2.2.2.2.2.2.2.2.1,h.2.2.2.2.2.2.2.2.2.2.2.1,h.2.2.2.2.2.2.2.2.2.2.2.2.1⟩
 | .j8,h=>⟨h.1,h.2.1,h.2.2.1,h.2.2.2.1,h.2.2.2.2.1,h.2.2.2.2.2.1,h.2.2.2.2.2.2.1,h.2.2.2.2.2.2.2.1,h.2.2.2.2.2.2.2.2.1,h.2.2.2.2.2.2.2.2.2.1,h.2.2.2.2.2.2.2.2.2.2.1,h.2.2.2.2.2.2.2.2.2.2.2.1,h.2.2.2.2.2.2.2.2.2.2.2.2.1,h.2.2.2.2.2.2.2.2.2.2.2.2.2.1,h.2.2.2.2.2.2.2.2.2.2.2.2.2.2.1,h.2.2.2.2.2.2.2.2.2.2.2.2.2.2.2.1,h.2.2.2.2.2.2.2.2.2.2.2.2.2.2.2.2.1,h.2.2.2.2.2.2.2.2.2.2.2.2.2.2.2.2.2.1,h.2.2.2.2.2.2.2.2.2.2.2.2.2.2.2.2.2.2.1,h.2.2.2.2.2.2.2.2.2.2.2.2.2.2.2.2.2.2.2.1,h.2.2.2.2.2.2.2.2.2.2.2.2.2.2.2.2.2.2.2.2.1⟩
 | .site,h=>⟨h.1,h.2.1,h.2.2.1,h.2.2.2.1,h.2.2.2.2.1,h.2.2.2.2.2.1,h.2.2.2.2.2.2.1,h.2.2.2.2.2.2.2.1,h.2.2.2.2.2.2.2.2.1,h.2.2.2.2.2.2.2.2.2.1⟩
 | .mA,h=>⟨h.1,h.2.1,h.2.2.1,h.2.2.2.1,h.2.2.2.2.1,h.2.2.2.2.2.1⟩
 | .graph,h=>⟨h.1,h.2.1⟩
 | .k9,h=>⟨h.1,h.2.1,h.2.2.1⟩
 | .gi,h=>⟨h.1,h.2.1,h.2.2.1,h.2.2.2.1⟩
 | .mC,h=>⟨h.1,h.2.1,h.2.2.1,h.2.2.2.1⟩
def gvS:Nat->Option ((c:CT SI)×CT.T se c):=λ_=>none
def xx:SX:={ toSE:=se,cW:=SM,get:=an8,make:=anQ,nt:=by intro i x;cases i<;>first |rfl |exact XC _,gh:=by intro i h;cases i<;>first |rfl |exact XC _,flat:=by intro i;cases i<;>rfl,gv:=gvS,wn:=λ_=>rfl }
abbrev da:Value:=.slice none 0 0
abbrev dk:Value:=.int .i64 0
abbrev Fk:Value:=.bool false
abbrev lE:Value:=.string ⟨#[]⟩
def tab:List (TypeId×nj):=[
 (3,⟨1,8,false,[dk],.int .i64,[]⟩),
 (4,⟨1,1,false,[Fk],.bool,[]⟩),
 (5,⟨1,1,false,[.int .u8 0],.int .u8,[]⟩),
 (9,⟨1,16,false,[lE],.str,[]⟩),
 (22,⟨1,24,false,[da],.slice 109,[]⟩),
 (23,⟨1,24,false,[da],.slice 111,[]⟩),
 (24,⟨1,24,false,[da],.slice 101,[]⟩),
 (25,⟨1,24,false,[da],.slice 53,[]⟩),
 (26,⟨1,24,false,[da],.slice 105,[]⟩),
 (27,⟨1,24,false,[da],.slice 358,[]⟩),
 (28,⟨1,24,false,[da],.slice 356,[]⟩),
 (30,⟨8,176,true,[da,da,da,da,da,da,da,dk],.struct [(0,22),(1,23),(2,24),(3,25),(4,26),(5,27),(6,28),(7,3)],[]⟩),
 (31,⟨1,24,false,[da],.slice 80,[]⟩),
 (32,⟨1,24,false,[da],.slice 83,[]⟩),
 (33,⟨1,24,false,[da],.slice 360,[]⟩),
 (34,⟨1,24,false,[da],.slice 73,[]⟩),
 (35,⟨1,24,false,[da],.slice 143,[]⟩),
 (37,⟨13,296,true,[da,da,da,da,da,da,da,dk,da,da,da,da,da],.struct [(0,30),(8,31),(9,32),(10,33),(11,34),(12,35)],[]⟩),
 (38,⟨1,24,false,[da],.slice 62,[]⟩),
 (40,⟨2,32,true,[dk,da],.struct [(0,3),(1,38)],[]⟩),
 (43,⟨1,24,false,[da],.slice 9,[]⟩),
 (47,⟨1,24,false,[da],.slice 49,[]⟩),
 (49,⟨5,72,true,[dk,dk,lE,lE,da],.struct [(0,3),(1,3),(2,9),(3,9),(4,47)],[]⟩),
 (51,⟨4,32,true,[dk,dk,dk,dk],.struct [(0,3),(1,3),(2,3),(3,3)],[0,0,0,0]⟩),
 (53,⟨20,232,true,[lE,da,da,dk,dk,dk,Fk,dk,dk,dk,lE,lE,da,dk,dk,dk,dk,dk,dk,dk],.struct [(0,9),(1,43),(2,43),(3,3),(4,3),(5,3),(6,4),(7,3),(8,49),(13,51),(17,3),(18,3),(19,3)],[]⟩),
 (60,⟨1,24,false,[da],.slice 71,[]⟩),
 (62,⟨2,48,true,[da,da],.struct [(0,60),(1,35)],[]⟩),
 (67,⟨4,32,true,[dk,dk,dk,dk],.struct [(0,3),(1,3),(2,3),(3,3)],[0,0,0,0]⟩),
 (69,⟨6,48,true,[dk,dk,dk,dk,dk,dk],.struct [(0,67),(4,3),(5,3)],[]⟩),
 (71,⟨9,72,true,[dk,dk,dk,dk,dk,dk,dk,dk,Fk],.struct [(0,69),(6,3),(7,3),(8,4)],[]⟩),
 (73,⟨10,80,true,[dk,dk,dk,dk,dk,dk,dk,dk,dk,Fk],.struct [(0,3),(1,71)],[]⟩),
 (77,⟨1,24,false,[da],.slice 67,[]⟩),
 (78,⟨1,24,false,[da],.slice 3,[]⟩),
 (80,⟨4,64,true,[dk,dk,da,da],.struct [(0,3),(1,3),(2,77),(3,78)],[]⟩),
 (83,⟨3,40,true,[dk,da,dk],.struct [(0,3),(1,77),(2,3)],[]⟩),
 (86,⟨21,440,true,[da,da,da,da,da,da,da,dk,da,da,da,da,da,dk,dk,da,da,dk,da,da,da],.struct [(0,37),(13,80),(17,40),(19,60),(20,43)],[]⟩),
 (94,⟨1,24,false,[da],.slice 131,[]⟩),
 (99,⟨1,24,false,[da],.slice 135,[]⟩),
 (101,⟨3,48,true,[lE,Fk,da],.struct [(0,9),(1,4),(2,99)],[]⟩),
 (105,⟨4,56,true,[lE,dk,dk,da],.struct [(0,9),(1,3),(2,3),(3,99)],[]⟩),
 (109,⟨6,88,true,[lE,dk,dk,lE,lE,da],.struct [(0,9),(1,49)],[]⟩),
 (111,⟨3,48,true,[lE,da,dk],.struct [(0,9),(1,35),(2,3)],[]⟩),
 (124,⟨1,24,false,[da],.slice 51,[]⟩),
 (131,⟨3,40,true,[dk,dk,da],.struct [(0,3),(1,3),(2,77)],[]⟩),
 (135,⟨2,16,true,[dk,dk],.struct [(0,3),(1,3)],[0,0]⟩),
 (143,⟨2,24,true,[lE,dk],.struct [(0,9),(1,3)],[2,0]⟩),
 (150,⟨1,8,false,[.map none],.map 9 3,[]⟩),
 (152,⟨10,208,true,[da,da,da,da,da,da,da,dk,.map none,da],.struct [(0,30),(8,150),(9,43)],[]⟩),
 (156,⟨1,8,false,[.pointer none],.other,[]⟩),
 (158,⟨10,224,true,[da,da,da,da,da,da,da,dk,da,da],.struct [(0,30),(8,77),(9,60)],[]⟩),
 (160,⟨1,8,false,[.nilFunc],.other,[]⟩),
 (162,⟨2,24,true,[lE,.nilFunc],.struct [(0,9),(1,160)],[]⟩),
 (163,⟨18,216,true,[lE,.nilFunc,lE,.nilFunc,lE,.nilFunc,lE,.nilFunc,lE,.nilFunc,lE,.nilFunc,lE,.nilFunc,lE,.nilFunc,lE,.nilFunc],.arr 9 162,[]⟩),
 (176,⟨1,8,false,[.map none],.map 9 4,[]⟩),
 (204,⟨1,24,false,[da],.slice 211,[]⟩),
 (209,⟨1,24,false,[da],.slice 239,[]⟩),
 (211,⟨3,40,true,[dk,dk,da],.struct [(0,3),(1,3),(2,209)],[]⟩),
 (228,⟨1,8,false,[.int .u64 0],.int .u64,[]⟩),
 (235,⟨4,32,true,[dk,dk,dk,dk],.arr 4 3,[]⟩),
 (239,⟨2,16,true,[dk,dk],.struct [(0,3),(1,3)],[0,0]⟩),
 (240,⟨1,24,false,[da],.slice 77,[]⟩),
 (251,⟨1,24,false,[da],.slice 254,[]⟩),
 (254,⟨4,32,true,[dk,dk,dk,dk],.struct [(0,135),(2,135)],[]⟩),
 (255,⟨1,24,false,[da],.slice 78,[]⟩),
 (257,⟨2,48,true,[da,da],.struct [(0,22),(1,255)],[]⟩),
 (261,⟨1,24,false,[da],.slice 4,[]⟩),
 (271,⟨1,4,false,[.int .u32 0],.int .u32,[]⟩),
 (273,⟨1,8,false,[.int .u64 0],.int .u64,[]⟩),
 (280,⟨6,96,true,[lE,lE,lE,lE,lE,lE],.arr 6 9,[]⟩),
 (284,⟨1,24,false,[da],.slice 209,[]⟩),
 (298,⟨1,8,false,[.int .u64 0],.int .u64,[]⟩),
 (356,⟨3,24,true,[dk,dk,dk],.struct [(0,3),(1,3),(2,3)],[0,0,0]⟩),
 (358,⟨6,72,true,[lE,dk,dk,dk,dk,da],.struct [(0,9),(1,356),(4,3),(5,28)],[]⟩),
 (360,⟨4,32,true,[dk,dk,dk,dk],.struct [(0,3),(1,356)],[]⟩)]
def anR:List (TypeId×CT SI):=[(3,(.int .i64)),(4,.bool),(9,.str),(49,(.st SI.Expr)),(51,(.st SI.gi)),(53,(.st SI.Rule)),(62,(.st SI.Phase)),(67,(.st SI.km)),(71,(.st SI.iz)),(73,(.st SI.gb)),(77,(.sl (.st SI.km))),(80,(.st SI.Lot)),(131,(.st SI.k9)),(143,(.st SI.Entry)),(209,(.sl (.st SI.span))),(211,(.st SI.strip)),(239,(.st SI.span)),(254,(.st SI.side))]
def amG:TypeId->Option (CT xx.ι):=lk anR
theorem amH:eY Tryz.prog (Wn tab):=ajV (by kernel_rfl)
theorem mixed:Tryz.prog.follows .mixedOrders=true:=Checked.mixed Tryz.checked
theorem cq{f:FuncId}{fn:Func}{l:List (FuncId×bz xx)}(hΓ:ry Tryz.prog (vm l))(hfn:Tryz.prog.funcs[f]? =some fn){s:bz xx}(h:Hn SI)(n:Nat)
 (hq : (fn.body.isSome && !(fn.name == "runtime.NumGoroutine") && decide (s.args.length <= fn.ntmps /\ qH s.args <= 1000 /\ (s.res.filter RT.out).length = qH s.args)) = true := by kernel_rfl) (hg : s.gen = none := by rfl)
 (hr:∀a,run (vm l) (Wn tab) amG fn.ntmps n (fn.body.getD .skip) (tV xx s.res) h (vf s.args a) (anJ (Wn tab) fn.results.toList s.res)=s.fn a:=by intro _;kernel_rfl):CC Tryz.prog f s:=by
 rw[aJ,aJ]at hq;obtain⟨⟨q1,q2⟩,q3⟩:=hq;have hb:fn.body=some (fn.body.getD .skip):=by
  cases hc:fn.body with
  |none=>rw[hc]at q1;cases q1
  |some c=>rfl
 have hn : (fn.name == "runtime.NumGoroutine") = false := by simpa using q2
 exact xd (nH hfn hb hn) (λ a _ e=>anK amH mixed hΓ hfn hb hn _ _ (of_decide_eq_true q3) h n ((hr a).trans e)) hg
theorem nF{f:FuncId}{fn:Func}{l:List (FuncId×bz xx)}(hΓ:ry Tryz.prog (vm l))(hfn:Tryz.prog.funcs[f]? =some fn){g:cT xx}(h:Hn SI)(n:Nat)
 (hq : (fn.body.isSome && !(fn.name == "runtime.NumGoroutine") && decide (g.pm.length <= fn.ntmps) && g.ym) = true)
 (hr:∀v,run (vm l) (Wn tab) amG fn.ntmps n (fn.body.getD .skip) (VT (X:=xx) (Cv g).vars) h (DE g v) (amB (Wn tab) fn.results.toList g)=g.fn v):CC Tryz.prog f ⟨[],[.d .bool],λ_=>none,some g⟩:=by
 rw[aJ,aJ,aJ]at hq;obtain⟨⟨⟨q1,q2⟩,q3⟩,q4⟩:=hq;have hb:fn.body=some (fn.body.getD .skip):=by
  cases hc:fn.body with
  |none=>rw[hc]at q1;cases q1
  |some c=>rfl
 have hn : (fn.name == "runtime.NumGoroutine") = false := by simpa using q2
 exact Tl (nH hfn hb hn) (am6 amH mixed hΓ hfn hb hn g (of_decide_eq_true q3) q4 h n (λ v _ e=>(hr v).trans e))
theorem gcn:ry Tryz.prog (vm ([]:List (FuncId×bz xx))):=aB
abbrev af:CT SI:=.int .i64
abbrev ax:CT SI:=.st SI.km
abbrev aI:CT SI:=.st SI.iz
abbrev fA:CT SI:=.st SI.gd
abbrev bG:CT SI:=.st SI.Cap
abbrev bq:CT SI:=.st SI.Def
abbrev bg:CT SI:=.st SI.Table
abbrev bC:CT SI:=.st SI.Zone
abbrev aZ:CT SI:=.st SI.Rule
abbrev aW:CT SI:=.st SI.gC
abbrev bD:CT SI:=.st SI.View
abbrev aH(f:Nat)(s:bz xx):Prop:=CC Tryz.prog f s
abbrev gU:=(List fJ)×(List bW)×(List dW)×(List aQ)×(List ic)×(List fG)×(List bU)×Int×(List ay)×(List aF)
end Go.Proofs
