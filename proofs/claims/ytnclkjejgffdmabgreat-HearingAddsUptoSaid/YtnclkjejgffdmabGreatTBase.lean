import Derived.Test.YtnclkjejgffdmabGreatH1
import Derived.Test.YtnclkjejgffdmabGreatChecked
namespace Go.Proofs
open Go.Gb Go.RowKit
structure dh where
 op:Int
 n:Int
 s:ByteArray
 key:ByteArray
 args:(List dh)
mutual
def sj:dh->List Tree
 |⟨f0,f1,f2,f3,f4⟩=>[.sc (.int .i64 f0),.sc (.int .i64 f1),.sc (.string f2),.sc (.string f3),.sl (uo f4)]
def uo:List dh->List (List Tree)
 |[]=>[]
 |x::xs=>sj x::uo xs
end
theorem uq:∀l:List dh,uo l=l.map sj
 |[]=>rfl
 |x::xs=>by rw[uo,uq xs];rfl
theorem XO(x:dh):sj x=[.sc (.int .i64 x.op),.sc (.int .i64 x.n),.sc (.string x.s),.sc (.string x.key),.sl (x.args.map sj)]:=by cases x;simp only[sj,uq]
structure gK where
 name:ByteArray
 j7:Int
 mC:Int
 lz:ByteArray
 ju:ByteArray
 fj:(List dh)
def BL(x:gK):List Tree:=[.sc (.string x.name),.sc (.int .i64 x.j7),.sc (.int .i64 x.mC),.sc (.string x.lz),.sc (.string x.ju),.sl (x.fj.map sj)]
structure bg where
 name:ByteArray
 n:Int
 deriving DecidableEq,Inhabited
def Dp(x:bg):List Tree:=[.sc (.string x.name),.sc (.int .i64 x.n)]
structure bQ where
 name:ByteArray
 rows:(List bg)
 rK:Int
 deriving DecidableEq,Inhabited
def Dq(x:bQ):List Tree:=[.sc (.string x.name),.sl (x.rows.map Dp),.sc (.int .i64 x.rK)]
structure dY where
 x:Int
 y:Int
 deriving DecidableEq,Inhabited
def XP(x:dY):List Tree:=[.sc (.int .i64 x.x),.sc (.int .i64 x.y)]
structure fG where
 name:ByteArray
 overlay:Bool
 corners:(List dY)
 deriving DecidableEq,Inhabited
def Kj(x:fG):List Tree:=[.sc (.string x.name),.sc (.bool x.overlay),.sl (x.corners.map XP)]
structure cK where
 name:ByteArray
 zones:(List ByteArray)
 except:(List ByteArray)
 from_:Int
 lh:Int
 A5:Int
 vary:Bool
 kind:Int
 lP:Int
 oa:Int
 nF:ByteArray
 kx:ByteArray
 gS:(List dh)
 jn:Int
 jp:Int
 ky:Int
 kA:Int
 uses:Int
 other:Int
 n:Int
def wJ(x:cK):List Tree:=[.sc (.string x.name),.sl (x.zones.map (λ y=>[.sc (.string y)])),.sl (x.except.map (λ y=>[.sc (.string y)])),.sc (.int .i64 x.from_),.sc (.int .i64 x.lh),.sc (.int .i64 x.A5),.sc (.bool x.vary),.sc (.int .i64 x.kind),.sc (.int .i64 x.lP),.sc (.int .i64 x.oa),.sc (.string x.nF),.sc (.string x.kx),.sl (x.gS.map sj),.sc (.int .i64 x.jn),.sc (.int .i64 x.jp),.sc (.int .i64 x.ky),.sc (.int .i64 x.kA),.sc (.int .i64 x.uses),.sc (.int .i64 x.other),.sc (.int .i64 x.n)]
structure jE where
 name:ByteArray
 load:Int
 limit:Int
 corners:(List dY)
 deriving DecidableEq,Inhabited
def E8(x:jE):List Tree:=[.sc (.string x.name),.sc (.int .i64 x.load),.sc (.int .i64 x.limit),.sl (x.corners.map XP)]
structure dH where
 x:Int
 y:Int
 z:Int
 deriving DecidableEq,Inhabited
def vV(x:dH):List Tree:=[.sc (.int .i64 x.x),.sc (.int .i64 x.y),.sc (.int .i64 x.z)]
structure iw where
 name:ByteArray
 By:Int
 Bs:Int
 Bm:Int
 least:Int
 targets:(List dH)
 deriving DecidableEq,Inhabited
def Kk(x:iw):List Tree:=[.sc (.string x.name),.sc (.int .i64 x.By),.sc (.int .i64 x.Bs),.sc (.int .i64 x.Bm),.sc (.int .i64 x.least),.sl (x.targets.map vV)]
structure ax where
 x0:Int
 y0:Int
 x1:Int
 y1:Int
 deriving DecidableEq,Inhabited
def Kl(x:ax):List Tree:=[.sc (.int .i64 x.x0),.sc (.int .i64 x.y0),.sc (.int .i64 x.x1),.sc (.int .i64 x.y1)]
structure fE where
 id:Int
 owner:Int
 area:(List ax)
 from_:(List Int)
 deriving DecidableEq,Inhabited
def I9(x:fE):List Tree:=[.sc (.int .i64 x.id),.sc (.int .i64 x.owner),.sl (x.area.map Kl),.sl (x.from_.map (λ y=>[.sc (.int .i64 y)]))]
structure lG where
 lot:Int
 area:(List ax)
 top:Int
 deriving DecidableEq,Inhabited
def AQ(x:lG):List Tree:=[.sc (.int .i64 x.lot),.sl (x.area.map Kl),.sc (.int .i64 x.top)]
structure Ox where
 lot:Int
 M1:Int
 MY:Int
 MT:Int
 deriving DecidableEq,Inhabited
def Km(x:Ox):List Tree:=[.sc (.int .i64 x.lot),.sc (.int .i64 x.M1),.sc (.int .i64 x.MY),.sc (.int .i64 x.MT)]
structure jv where
 lot:Int
 fc:Int
 eV:Int
 eW:Int
 eS:Int
 mm:Int
 ml:Int
 ga:Int
 m4:Int
 m5:Bool
 deriving DecidableEq,Inhabited
def Kn(x:jv):List Tree:=[.sc (.int .i64 x.lot),.sc (.int .i64 x.fc),.sc (.int .i64 x.eV),.sc (.int .i64 x.eW),.sc (.int .i64 x.eS),.sc (.int .i64 x.mm),.sc (.int .i64 x.ml),.sc (.int .i64 x.ga),.sc (.int .i64 x.m4),.sc (.bool x.m5)]
structure aF where
 ci:Int
 cE:Int
 cd:Int
 cD:Int
 fm:Int
 ez:Int
 use:Int
 units:Int
 extra:Bool
 deriving DecidableEq,Inhabited
def Ko(x:aF):List Tree:=[.sc (.int .i64 x.ci),.sc (.int .i64 x.cE),.sc (.int .i64 x.cd),.sc (.int .i64 x.cD),.sc (.int .i64 x.fm),.sc (.int .i64 x.ez),.sc (.int .i64 x.use),.sc (.int .i64 x.units),.sc (.bool x.extra)]
structure lu where
 bx:(List aF)
 gives:(List bg)
 deriving DecidableEq,Inhabited
def zo(x:lu):List Tree:=[.sl (x.bx.map Ko),.sl (x.gives.map Dp)]
structure dK where
 from_:Int
 to:Int
 deriving DecidableEq,Inhabited
def ajH(x:dK):List Tree:=[.sc (.int .i64 x.from_),.sc (.int .i64 x.to)]
structure Oy where
 id:Int
 values:(List Int)
 grant:Bool
 deriving DecidableEq,Inhabited
def ajI(x:Oy):List Tree:=[.sc (.int .i64 x.id),.sl (x.values.map (λ y=>[.sc (.int .i64 y)])),.sc (.bool x.grant)]
structure aJ where
 eh:Int
 day:Int
 attacks:(List Int)
 ee:Int
 name:ByteArray
 n:Int
 deriving DecidableEq,Inhabited
def zq(x:aJ):List Tree:=[.sc (.int .i64 x.eh),.sc (.int .i64 x.day),.sl (x.attacks.map (λ y=>[.sc (.int .i64 y)])),.sc (.int .i64 x.ee),.sc (.string x.name),.sc (.int .i64 x.n)]
structure aG where
 cj:(List gK)
 aw:(List bQ)
 bp:(List fG)
 aE:(List cK)
 bk:(List jE)
 br:(List iw)
 cx:(List dH)
 bu:Int
 c8:(List fE)
 cL:(List lG)
 cR:(List Ox)
 cT:(List jv)
 ec:(List bg)
 co:Int
 b8:(List lu)
 rule:Int
 el:Int
 eC:Int
 eL:(List Int)
 stays:(List dK)
 cases:(List Oy)
 claims:(List aJ)
def jF(x:aG):List Tree:=[.sl (x.cj.map BL),.sl (x.aw.map Dq),.sl (x.bp.map Kj),.sl (x.aE.map wJ),.sl (x.bk.map E8),.sl (x.br.map Kk),.sl (x.cx.map vV),.sc (.int .i64 x.bu),.sl (x.c8.map I9),.sl (x.cL.map AQ),.sl (x.cR.map Km),.sl (x.cT.map Kn),.sl (x.ec.map Dp),.sc (.int .i64 x.co),.sl (x.b8.map zo),.sc (.int .i64 x.rule),.sc (.int .i64 x.el),.sc (.int .i64 x.eC),.sl (x.eL.map (λ y=>[.sc (.int .i64 y)])),.sl (x.stays.map ajH),.sl (x.cases.map ajI),.sl (x.claims.map zq)]
structure bO where
 defs:(List gK)
 tables:(List bQ)
 zones:(List fG)
 rules:(List cK)
 caps:(List jE)
 views:(List iw)
 wA:(List dH)
 hours:Int
def aoQ(x:bO):List Tree:=[.sl (x.defs.map BL),.sl (x.tables.map Dq),.sl (x.zones.map Kj),.sl (x.rules.map wJ),.sl (x.caps.map E8),.sl (x.views.map Kk),.sl (x.wA.map vV),.sc (.int .i64 x.hours)]
structure aO where
 lot:Int
 phases:(List lu)
 deriving DecidableEq,Inhabited
def vW(x:aO):List Tree:=[.sc (.int .i64 x.lot),.sl (x.phases.map zo)]
structure aR where
 from_:Int
 to:Int
 deriving DecidableEq,Inhabited
def ajJ(x:aR):List Tree:=[.sc (.int .i64 x.from_),.sc (.int .i64 x.to)]
structure bR where
 x0:Int
 x1:Int
 column:(List aR)
 deriving DecidableEq,Inhabited
def anb(x:bR):List Tree:=[.sc (.int .i64 x.x0),.sc (.int .i64 x.x1),.sl (x.column.map ajJ)]
structure eH where
 cH:(List gK)
 ct:(List bQ)
 cz:(List fG)
 aq:(List cK)
 cQ:(List jE)
 cV:(List iw)
 d5:(List dH)
 cW:Int
 land:(List fE)
 cJ:(List lG)
 windows:(List Ox)
 built:(List jv)
 base:(List bg)
def AR(x:eH):List Tree:=[.sl (x.cH.map BL),.sl (x.ct.map Dq),.sl (x.cz.map Kj),.sl (x.aq.map wJ),.sl (x.cQ.map E8),.sl (x.cV.map Kk),.sl (x.d5.map vV),.sc (.int .i64 x.cW),.sl (x.land.map I9),.sl (x.cJ.map AQ),.sl (x.windows.map Km),.sl (x.built.map Kn),.sl (x.base.map Dp)]
structure apD where
 cH:(List gK)
 ct:(List bQ)
 cz:(List fG)
 aq:(List cK)
 cQ:(List jE)
 cV:(List iw)
 d5:(List dH)
 cW:Int
 area:(List ax)
 bx:(List aF)
def aoR(x:apD):List Tree:=[.sl (x.cH.map BL),.sl (x.ct.map Dq),.sl (x.cz.map Kj),.sl (x.aq.map wJ),.sl (x.cQ.map E8),.sl (x.cV.map Kk),.sl (x.d5.map vV),.sc (.int .i64 x.cW),.sl (x.area.map Kl),.sl (x.bx.map Ko)]
structure Kq where
 a0:ByteArray
 a1:ByteArray
 a2:ByteArray
 a3:ByteArray
 a4:ByteArray
 a5:ByteArray
 deriving DecidableEq,Inhabited
def akW(x:Kq):List Tree:=[.sc (.string x.a0),.sc (.string x.a1),.sc (.string x.a2),.sc (.string x.a3),.sc (.string x.a4),.sc (.string x.a5)]
structure Ha where
 pP:Int
 pL:Int
 pN:Int
 pH:Int
 z0:Int
 z1:Int
 deriving DecidableEq,Inhabited
def aqe(x:Ha):List Tree:=[.sc (.int .i64 x.pP),.sc (.int .i64 x.pL),.sc (.int .i64 x.pN),.sc (.int .i64 x.pH),.sc (.int .i64 x.z0),.sc (.int .i64 x.z1)]
structure jM where
 mL:Int
 q7:Int
 nb:Int
 wd:Int
 deriving DecidableEq,Inhabited
def aoS(x:jM):List Tree:=[.sc (.int .i64 x.mL),.sc (.int .i64 x.q7),.sc (.int .i64 x.nb),.sc (.int .i64 x.wd)]
structure ni where
 cj:(List gK)
 aw:(List bQ)
 bp:(List fG)
 aE:(List cK)
 bk:(List jE)
 br:(List iw)
 cx:(List dH)
 bu:Int
 c8:(List fE)
 cL:(List lG)
 cR:(List Ox)
 cT:(List jv)
 ec:(List bg)
 t6:Int
 oe:Int
 lr:(List ax)
 p6:(List Int)
 co:Int
 b8:(List lu)
 bx:(List aF)
 zones:(List ByteArray)
def ane(x:ni):List Tree:=[.sl (x.cj.map BL),.sl (x.aw.map Dq),.sl (x.bp.map Kj),.sl (x.aE.map wJ),.sl (x.bk.map E8),.sl (x.br.map Kk),.sl (x.cx.map vV),.sc (.int .i64 x.bu),.sl (x.c8.map I9),.sl (x.cL.map AQ),.sl (x.cR.map Km),.sl (x.cT.map Kn),.sl (x.ec.map Dp),.sc (.int .i64 x.t6),.sc (.int .i64 x.oe),.sl (x.lr.map Kl),.sl (x.p6.map (λ y=>[.sc (.int .i64 y)])),.sc (.int .i64 x.co),.sl (x.b8.map zo),.sl (x.bx.map Ko),.sl (x.zones.map (λ y=>[.sc (.string y)]))]
structure qi where
 defs:(List gK)
 uses:(List (List Int))
def anf(x:qi):List Tree:=[.sl (x.defs.map BL),.sl (x.uses.map (λ y=>[.sl (y.map (λ y=>[.sc (.int .i64 y)]))]))]
structure gB where
 z0:Int
 z1:Int
 area:(List ax)
 deriving DecidableEq,Inhabited
def aoT(x:gB):List Tree:=[.sc (.int .i64 x.z0),.sc (.int .i64 x.z1),.sl (x.area.map Kl)]
structure dX where
 side:Int
 base:Int
 num:Int
 den:Int
 deriving DecidableEq,Inhabited
def ang(x:dX):List Tree:=[.sc (.int .i64 x.side),.sc (.int .i64 x.base),.sc (.int .i64 x.num),.sc (.int .i64 x.den)]
structure Oz where
 a0:Int
 a1:Int
 a2:Int
 a3:Int
 deriving DecidableEq,Inhabited
def akX(x:Oz):List Tree:=[.sc (.int .i64 x.a0),.sc (.int .i64 x.a1),.sc (.int .i64 x.a2),.sc (.int .i64 x.a3)]
structure Ja where
 id:Int
 holder:Int
 state:Int
 day:Int
 rule:Int
 jt:(List aO)
 choice:Int
 into:Int
 deriving DecidableEq,Inhabited
def ah2(x:Ja):List Tree:=[.sc (.int .i64 x.id),.sc (.int .i64 x.holder),.sc (.int .i64 x.state),.sc (.int .i64 x.day),.sc (.int .i64 x.rule),.sl (x.jt.map vW),.sc (.int .i64 x.choice),.sc (.int .i64 x.into)]
structure RR where
 kind:Int
 day:Int
 n:Int
 jt:(List aO)
 deriving DecidableEq,Inhabited
def aqf(x:RR):List Tree:=[.sc (.int .i64 x.kind),.sc (.int .i64 x.day),.sc (.int .i64 x.n),.sl (x.jt.map vW)]
inductive SI where
 |Expr
 |Def
 |Entry
 |Table
 |j8
 |Zone
 |Rule
 |Cap
 |ia
 |View
 |np
 |Lot
 |fX
 |Window
 |ie
 |km
 |Phase
 |rm
 |Case
 |Claim
 |fY
 |wg
 |i8
 |span
 |strip
 |pw
 |site
 |oy
 |Hj
 |side
 |lj
 |graph
 |mj
 |ip
 |oA
 |mf
 |Act
 deriving DecidableEq
@[reducible] def TT:SI->Type
 | .Expr=>dh
 | .Def=>gK
 | .Entry=>bg
 | .Table=>bQ
 | .j8=>dY
 | .Zone=>fG
 | .Rule=>cK
 | .Cap=>jE
 | .ia=>dH
 | .View=>iw
 | .np=>ax
 | .Lot=>fE
 | .fX=>lG
 | .Window=>Ox
 | .ie=>jv
 | .km=>aF
 | .Phase=>lu
 | .rm=>dK
 | .Case=>Oy
 | .Claim=>aJ
 | .fY=>aG
 | .wg=>bO
 | .i8=>aO
 | .span=>aR
 | .strip=>bR
 | .pw=>eH
 | .site=>apD
 | .oy=>Kq
 | .Hj=>Ha
 | .side=>jM
 | .lj=>ni
 | .graph=>qi
 | .mj=>gB
 | .ip=>dX
 | .oA=>Oz
 | .mf=>Ja
 | .Act=>RR
def arF:(i:SI)->TT i->List Tree
 | .Expr,x=>sj x
 | .Def,x=>BL x
 | .Entry,x=>Dp x
 | .Table,x=>Dq x
 | .j8,x=>XP x
 | .Zone,x=>Kj x
 | .Rule,x=>wJ x
 | .Cap,x=>E8 x
 | .ia,x=>vV x
 | .View,x=>Kk x
 | .np,x=>Kl x
 | .Lot,x=>I9 x
 | .fX,x=>AQ x
 | .Window,x=>Km x
 | .ie,x=>Kn x
 | .km,x=>Ko x
 | .Phase,x=>zo x
 | .rm,x=>ajH x
 | .Case,x=>ajI x
 | .Claim,x=>zq x
 | .fY,x=>jF x
 | .wg,x=>aoQ x
 | .i8,x=>vW x
 | .span,x=>ajJ x
 | .strip,x=>anb x
 | .pw,x=>AR x
 | .site,x=>aoR x
 | .oy,x=>akW x
 | .Hj,x=>aqe x
 | .side,x=>aoS x
 | .lj,x=>ane x
 | .graph,x=>anf x
 | .mj,x=>aoT x
 | .ip,x=>ang x
 | .oA,x=>akX x
 | .mf,x=>ah2 x
 | .Act,x=>aqf x
def se:SE:=⟨SI,inferInstance,TT,arF⟩
def aqg:SI->List (CT SI)
 | .Expr=>[(.int .i64),(.int .i64),.str,.str,(.sl (.st SI.Expr))]
 | .Def=>[.str,(.int .i64),(.int .i64),.str,.str,(.sl (.st SI.Expr))]
 | .Entry=>[.str,(.int .i64)]
 | .Table=>[.str,(.sl (.st SI.Entry)),(.int .i64)]
 | .j8=>[(.int .i64),(.int .i64)]
 | .Zone=>[.str,.bool,(.sl (.st SI.j8))]
 | .Rule=>[.str,(.sl .str),(.sl .str),(.int .i64),(.int .i64),(.int .i64),.bool,(.int .i64),(.int .i64),(.int .i64),.str,.str,(.sl (.st SI.Expr)),(.int .i64),(.int .i64),(.int .i64),(.int .i64),(.int .i64),(.int .i64),(.int .i64)]
 | .Cap=>[.str,(.int .i64),(.int .i64),(.sl (.st SI.j8))]
 | .ia=>[(.int .i64),(.int .i64),(.int .i64)]
 | .View=>[.str,(.int .i64),(.int .i64),(.int .i64),(.int .i64),(.sl (.st SI.ia))]
 | .np=>[(.int .i64),(.int .i64),(.int .i64),(.int .i64)]
 | .Lot=>[(.int .i64),(.int .i64),(.sl (.st SI.np)),(.sl (.int .i64))]
 | .fX=>[(.int .i64),(.sl (.st SI.np)),(.int .i64)]
 | .Window=>[(.int .i64),(.int .i64),(.int .i64),(.int .i64)]
 | .ie=>[(.int .i64),(.int .i64),(.int .i64),(.int .i64),(.int .i64),(.int .i64),(.int .i64),(.int .i64),(.int .i64),.bool]
 | .km=>[(.int .i64),(.int .i64),(.int .i64),(.int .i64),(.int .i64),(.int .i64),(.int .i64),(.int .i64),.bool]
 | .Phase=>[(.sl (.st SI.km)),(.sl (.st SI.Entry))]
 | .rm=>[(.int .i64),(.int .i64)]
 | .Case=>[(.int .i64),(.sl (.int .i64)),.bool]
 | .Claim=>[(.int .i64),(.int .i64),(.sl (.int .i64)),(.int .i64),.str,(.int .i64)]
 | .fY=>[(.sl (.st SI.Def)),(.sl (.st SI.Table)),(.sl (.st SI.Zone)),(.sl (.st SI.Rule)),(.sl (.st SI.Cap)),(.sl (.st SI.View)),(.sl (.st SI.ia)),(.int .i64),(.sl (.st SI.Lot)),(.sl (.st SI.fX)),(.sl (.st SI.Window)),(.sl (.st SI.ie)),(.sl (.st SI.Entry)),(.int .i64),(.sl (.st SI.Phase)),(.int .i64),(.int .i64),(.int .i64),(.sl (.int .i64)),(.sl (.st SI.rm)),(.sl (.st SI.Case)),(.sl (.st SI.Claim))]
 | .wg=>[(.sl (.st SI.Def)),(.sl (.st SI.Table)),(.sl (.st SI.Zone)),(.sl (.st SI.Rule)),(.sl (.st SI.Cap)),(.sl (.st SI.View)),(.sl (.st SI.ia)),(.int .i64)]
 | .i8=>[(.int .i64),(.sl (.st SI.Phase))]
 | .span=>[(.int .i64),(.int .i64)]
 | .strip=>[(.int .i64),(.int .i64),(.sl (.st SI.span))]
 | .pw=>[(.sl (.st SI.Def)),(.sl (.st SI.Table)),(.sl (.st SI.Zone)),(.sl (.st SI.Rule)),(.sl (.st SI.Cap)),(.sl (.st SI.View)),(.sl (.st SI.ia)),(.int .i64),(.sl (.st SI.Lot)),(.sl (.st SI.fX)),(.sl (.st SI.Window)),(.sl (.st SI.ie)),(.sl (.st SI.Entry))]
 | .site=>[(.sl (.st SI.Def)),(.sl (.st SI.Table)),(.sl (.st SI.Zone)),(.sl (.st SI.Rule)),(.sl (.st SI.Cap)),(.sl (.st SI.View)),(.sl (.st SI.ia)),(.int .i64),(.sl (.st SI.np)),(.sl (.st SI.km))]
 | .oy=>[.str,.str,.str,.str,.str,.str]
 | .Hj=>[(.int .i64),(.int .i64),(.int .i64),(.int .i64),(.int .i64),(.int .i64)]
 | .side=>[(.int .i64),(.int .i64),(.int .i64),(.int .i64)]
 | .lj=>[(.sl (.st SI.Def)),(.sl (.st SI.Table)),(.sl (.st SI.Zone)),(.sl (.st SI.Rule)),(.sl (.st SI.Cap)),(.sl (.st SI.View)),(.sl (.st SI.ia)),(.int .i64),(.sl (.st SI.Lot)),(.sl (.st SI.fX)),(.sl (.st SI.Window)),(.sl (.st SI.ie)),(.sl (.st SI.Entry)),(.int .i64),(.int .i64),(.sl (.st SI.np)),(.sl (.int .i64)),(.int .i64),(.sl (.st SI.Phase)),(.sl (.st SI.km)),(.sl .str)]
 | .graph=>[(.sl (.st SI.Def)),(.sl (.sl (.int .i64)))]
 | .mj=>[(.int .i64),(.int .i64),(.sl (.st SI.np))]
 | .ip=>[(.int .i64),(.int .i64),(.int .i64),(.int .i64)]
 | .oA=>[(.int .i64),(.int .i64),(.int .i64),(.int .i64)]
 | .mf=>[(.int .i64),(.int .i64),(.int .i64),(.int .i64),(.int .i64),(.sl (.st SI.i8)),(.int .i64),(.int .i64)]
 | .Act=>[(.int .i64),(.int .i64),(.int .i64),(.sl (.st SI.i8))]
def arG:(i:SI)->TT i->HL se (aqg i)
 | .Expr,x=>(x.op,x.n,x.s,x.key,x.args,())
 | .Def,x=>(x.name,x.j7,x.mC,x.lz,x.ju,x.fj,())
 | .Entry,x=>(x.name,x.n,())
 | .Table,x=>(x.name,x.rows,x.rK,())
 | .j8,x=>(x.x,x.y,())
 | .Zone,x=>(x.name,x.overlay,x.corners,())
 | .Rule,x=>(x.name,x.zones,x.except,x.from_,x.lh,x.A5,x.vary,x.kind,x.lP,x.oa,x.nF,x.kx,x.gS,x.jn,x.jp,x.ky,x.kA,x.uses,x.other,x.n,())
 | .Cap,x=>(x.name,x.load,x.limit,x.corners,())
 | .ia,x=>(x.x,x.y,x.z,())
 | .View,x=>(x.name,x.By,x.Bs,x.Bm,x.least,x.targets,())
 | .np,x=>(x.x0,x.y0,x.x1,x.y1,())
 | .Lot,x=>(x.id,x.owner,x.area,x.from_,())
 | .fX,x=>(x.lot,x.area,x.top,())
 | .Window,x=>(x.lot,x.M1,x.MY,x.MT,())
 | .ie,x=>(x.lot,x.fc,x.eV,x.eW,x.eS,x.mm,x.ml,x.ga,x.m4,x.m5,())
 | .km,x=>(x.ci,x.cE,x.cd,x.cD,x.fm,x.ez,x.use,x.units,x.extra,())
 | .Phase,x=>(x.bx,x.gives,())
 | .rm,x=>(x.from_,x.to,())
 | .Case,x=>(x.id,x.values,x.grant,())
 | .Claim,x=>(x.eh,x.day,x.attacks,x.ee,x.name,x.n,())
 | .fY,x=>(x.cj,x.aw,x.bp,x.aE,x.bk,x.br,x.cx,x.bu,x.c8,x.cL,x.cR,x.cT,x.ec,x.co,x.b8,x.rule,x.el,x.eC,x.eL,x.stays,x.cases,x.claims,())
 | .wg,x=>(x.defs,x.tables,x.zones,x.rules,x.caps,x.views,x.wA,x.hours,())
 | .i8,x=>(x.lot,x.phases,())
 | .span,x=>(x.from_,x.to,())
 | .strip,x=>(x.x0,x.x1,x.column,())
 | .pw,x=>(x.cH,x.ct,x.cz,x.aq,x.cQ,x.cV,x.d5,x.cW,x.land,x.cJ,x.windows,x.built,x.base,())
 | .site,x=>(x.cH,x.ct,x.cz,x.aq,x.cQ,x.cV,x.d5,x.cW,x.area,x.bx,())
 | .oy,x=>(x.a0,x.a1,x.a2,x.a3,x.a4,x.a5,())
 | .Hj,x=>(x.pP,x.pL,x.pN,x.pH,x.z0,x.z1,())
 | .side,x=>(x.mL,x.q7,x.nb,x.wd,())
 | .lj,x=>(x.cj,x.aw,x.bp,x.aE,x.bk,x.br,x.cx,x.bu,x.c8,x.cL,x.cR,x.cT,x.ec,x.t6,x.oe,x.lr,x.p6,x.co,x.b8,x.bx,x.zones,())
 | .graph,x=>(x.defs,x.uses,())
 | .mj,x=>(x.z0,x.z1,x.area,())
 | .ip,x=>(x.side,x.base,x.num,x.den,())
 | .oA,x=>(x.a0,x.a1,x.a2,x.a3,())
 | .mf,x=>(x.id,x.holder,x.state,x.day,x.rule,x.jt,x.choice,x.into,())
 | .Act,x=>(x.kind,x.day,x.n,x.jt,())
def aq2:(i:SI)->HL se (aqg i)->TT i
 | .Expr,h=>⟨h.1,h.2.1,h.2.2.1,h.2.2.2.1,h.2.2.2.2.1⟩
 | .Def,h=>⟨h.1,h.2.1,h.2.2.1,h.2.2.2.1,h.2.2.2.2.1,h.2.2.2.2.2.1⟩
 | .Entry,h=>⟨h.1,h.2.1⟩
 | .Table,h=>⟨h.1,h.2.1,h.2.2.1⟩
 | .j8,h=>⟨h.1,h.2.1⟩
 | .Zone,h=>⟨h.1,h.2.1,h.2.2.1⟩
 | .Rule,h=>⟨h.1,h.2.1,h.2.2.1,h.2.2.2.1,h.2.2.2.2.1,h.2.2.2.2.2.1,h.2.2.2.2.2.2.1,h.2.2.2.2.2.2.2.1,h.2.2.2.2.2.2.2.2.1,h.2.2.2.2.2.2.2.2.2.1,h.2.2.2.2.2.2.2.2.2.2.1,h.2.2.2.2.2.2.2.2.2.2.2.1,h.2.2.2.2.2.2.2.2.2.2.2.2.1,h.2.2.2.2.2.2.2.2.2.2.2.2.2.1,h.2.2.2.2.2.2.2.2.2.2.2.2.2.2.1,h.2.2.2.2.2.2.2.2.2.2.2.2.2.2.2.1,h.2.2.2.2.2.2.2.2.2.2.2.2.2.2.2.2.1,h.2.2.2.2.2.2.2.2.2.2.2.2.2.2.2.2.2.1,h.2.2.2.2.2.2.2.2.2.2.2.2.2.2.2.2.2.2.1,h.2.2.2.2.2.2.2.2.2.2.2.2.2.2.2.2.2.2.2.1⟩
 | .Cap,h=>⟨h.1,h.2.1,h.2.2.1,h.2.2.2.1⟩
 | .ia,h=>⟨h.1,h.2.1,h.2.2.1⟩
 | .View,h=>⟨h.1,h.2.1,h.2.2.1,h.2.2.2.1,h.2.2.2.2.1,h.2.2.2.2.2.1⟩
 | .np,h=>⟨h.1,h.2.1,h.2.2.1,h.2.2.2.1⟩
 | .Lot,h=>⟨h.1,h.2.1,h.2.2.1,h.2.2.2.1⟩
 | .fX,h=>⟨h.1,h.2.1,h.2.2.1⟩
 | .Window,h=>⟨h.1,h.2.1,h.2.2.1,h.2.2.2.1⟩
 | .ie,h=>⟨h.1,h.2.1,h.2.2.1,h.2.2.2.1,h.2.2.2.2.1,h.2.2.2.2.2.1,h.2.2.2.2.2.2.1,h.2.2.2.2.2.2.2.1,h.2.2.2.2.2.2.2.2.1,h.2.2.2.2.2.2.2.2.2.1⟩
 | .km,h=>⟨h.1,h.2.1,h.2.2.1,h.2.2.2.1,h.2.2.2.2.1,h.2.2.2.2.2.1,h.2.2.2.2.2.2.1,h.2.2.2.2.2.2.2.1,h.2.2.2.2.2.2.2.2.1⟩
 | .Phase,h=>⟨h.1,h.2.1⟩
 | .rm,h=>⟨h.1,h.2.1⟩
 | .Case,h=>⟨h.1,h.2.1,h.2.2.1⟩
 | .Claim,h=>⟨h.1,h.2.1,h.2.2.1,h.2.2.2.1,h.2.2.2.2.1,h.2.2.2.2.2.1⟩
 | .fY,h=>⟨h.1,h.2.1,h.2.2.1,h.2.2.2.1,h.2.2.2.2.1,h.2.2.2.2.2.1,h.2.2.2.2.2.2.1,h.2.2.2.2.2.2.2.1,h.2.2.2.2.2.2.2.2.1,h.2.2.2.2.2.2.2.2.2.1,h.2.2.2.2.2.2.2.2.2.2.1,h.2.2.2.2.2.2.2.2.2.2.2.1,h.2.2.2.2.2.2.2.2.2.2.2.2.1,h.2.2.2.2.2.2.2.2.2.2.2.2.2.1,h.2.2.2.2.2.2.2.2.2.2.2.2.2.2.1,h.2.2.2.2.2.2.2.2.2.2.2.2.2.2.2.1,h.2.2.2.2.2.2.2.2.2.2.2.2.2.2.2.2.1,h.2.2.2.2.2.2.2.2.2.2.2.2.2.2.2.2.2.1,h.2.2.2.2.2.2.2.2.2.2.2.2.2.2.2.2.2.2.1,h.2.2.2.2.2.2.2.2.2.2.2.2.2.2.2.2.2.2.2.1,h.2.2.2.2.2.2.2.2.2.2.2.2.2.2.2.2.2.2.2.2.1,h.2.2.2.2.2.2.2.2.2.2.2.2.2.2.2.2.2.2.2.2.2.1⟩
 | .wg,h=>⟨h.1,h.2.1,h.2.2.1,h.2.2.2.1,h.2.2.2.2.1,h.2.2.2.2.2.1,h.2.2.2.2.2.2.1,h.2.2.2.2.2.2.2.1⟩
 | .i8,h=>⟨h.1,h.2.1⟩
 | .span,h=>⟨h.1,h.2.1⟩
 | .strip,h=>⟨h.1,h.2.1,h.2.2.1⟩
 | .pw,h=>⟨h.1,h.2.1,h.2.2.1,h.2.2.2.1,h.2.2.2.2.1,h.2.2.2.2.2.1,h.2.2.2.2.2.2.1,h.2.2.2.2.2.2.2.1,h.2.2.2.2.2.2.2.2.1,h.2.2.2.2.2.2.2.2.2.1,h.2.2.2.2.2.2.2.2.2.2.1,h.2.2.2.2.2.2.2.2.2.2.2.1,h.2.2.2.2.2.2.2.2.2.2.2.2.1⟩
 | .site,h=>⟨h.1,h.2.1,h.2.2.1,h.2.2.2.1,h.2.2.2.2.1,h.2.2.2.2.2.1,h.2.2.2.2.2.2.1,h.2.2.2.2.2.2.2.1,h.2.2.2.2.2.2.2.2.1,h.2.2.2.2.2.2.2.2.2.1⟩
 | .oy,h=>⟨h.1,h.2.1,h.2.2.1,h.2.2.2.1,h.2.2.2.2.1,h.2.2.2.2.2.1⟩
 | .Hj,h=>⟨h.1,h.2.1,h.2.2.1,h.2.2.2.1,h.2.2.2.2.1,h.2.2.2.2.2.1⟩
 | .side,h=>⟨h.1,h.2.1,h.2.2.1,h.2.2.2.1⟩
 | .lj,h=>⟨h.1,h.2.1,h.2.2.1,h.2.2.2.1,h.2.2.2.2.1,h.2.2.2.2.2.1,h.2.2.2.2.2.2.1,h.2.2.2.2.2.2.2.1,h.2.2.2.2.2.2.2.2.1,h.2.2.2.2.2.2.2.2.2.1,h.2.2.2.2.2.2.2.2.2.2.1,h.2.2.2.2.2.2.2.2.2.2.2.1,h.2.2.2.2.2.2.2.2.2.2.2.2.1,h.2.2.2.2.2.2.2.2.2.2.2.2.2.1,h.2.2.2.2.2.2.2.2.2.2.2.2.2.2.1,h.2.2.2.2.2.2.2.2.2.2.2.2.2.2.2.1,h.2.2.2.2.2.2.2.2.2.2.2.2.2.2.2.2.1,h.2.2.2.2.2.2.2.2.2.2.2.2.2.2.2.2.2.1,h.2.2.2.2.2.2.2.2.2.2.2.2.2.2.2.2.2.2.1,h.2.2.2.2.2.2.2.2.2.2.2.2.2.2.2.2.2.2.2.1,h.2.2.2.2.2.2.2.2.2.2.2.2.2.2.2.2.2.2.2.2.1⟩
 | .graph,h=>⟨h.1,h.2.1⟩
 | .mj,h=>⟨h.1,h.2.1,h.2.2.1⟩
 | .ip,h=>⟨h.1,h.2.1,h.2.2.1,h.2.2.2.1⟩
 | .oA,h=>⟨h.1,h.2.1,h.2.2.1,h.2.2.2.1⟩
 | .mf,h=>⟨h.1,h.2.1,h.2.2.1,h.2.2.2.1,h.2.2.2.2.1,h.2.2.2.2.2.1,h.2.2.2.2.2.2.1,h.2.2.2.2.2.2.2.1⟩
 | .Act,h=>⟨h.1,h.2.1,h.2.2.1,h.2.2.2.1⟩
def gvS:Nat->Option ((c:CT SI)×CT.T se c):=λ_=>none
def xx:SX:={ toSE:=se,ej:=aqg,get:=arG,make:=aq2,px:=by intro i x;cases i<;>first |rfl |exact XO _,ik:=by intro i h;cases i<;>first |rfl |exact XO _,flat:=by intro i;cases i<;>rfl,gv:=gvS,A4:=λ_=>rfl }
abbrev dg:Value:=.slice none 0 0
abbrev d7:Value:=.int .i64 0
abbrev Hm:Value:=.bool false
abbrev my:Value:=.string ⟨#[]⟩
def tab:List (TypeId×pS):=[
 (3,⟨1,8,false,[d7],.int .i64,[]⟩),
 (4,⟨1,1,false,[Hm],.bool,[]⟩),
 (9,⟨1,16,false,[my],.str,[]⟩),
 (22,⟨1,24,false,[dg],.slice 119,[]⟩),
 (23,⟨1,24,false,[dg],.slice 73,[]⟩),
 (24,⟨1,24,false,[dg],.slice 257,[]⟩),
 (25,⟨1,24,false,[dg],.slice 110,[]⟩),
 (26,⟨1,24,false,[dg],.slice 253,[]⟩),
 (27,⟨1,24,false,[dg],.slice 415,[]⟩),
 (28,⟨1,24,false,[dg],.slice 413,[]⟩),
 (30,⟨8,176,true,[dg,dg,dg,dg,dg,dg,dg,d7],.struct [(0,22),(1,23),(2,24),(3,25),(4,26),(5,27),(6,28),(7,3)],[]⟩),
 (31,⟨1,24,false,[dg],.slice 82,[]⟩),
 (32,⟨1,24,false,[dg],.slice 112,[]⟩),
 (33,⟨1,24,false,[dg],.slice 417,[]⟩),
 (34,⟨1,24,false,[dg],.slice 270,[]⟩),
 (35,⟨1,24,false,[dg],.slice 93,[]⟩),
 (37,⟨13,296,true,[dg,dg,dg,dg,dg,dg,dg,d7,dg,dg,dg,dg,dg],.struct [(0,30),(8,31),(9,32),(10,33),(11,34),(12,35)],[]⟩),
 (38,⟨1,24,false,[dg],.slice 102,[]⟩),
 (40,⟨2,32,true,[d7,dg],.struct [(0,3),(1,38)],[]⟩),
 (41,⟨1,24,false,[dg],.slice 3,[]⟩),
 (42,⟨1,24,false,[dg],.slice 148,[]⟩),
 (43,⟨1,24,false,[dg],.slice 144,[]⟩),
 (44,⟨1,24,false,[dg],.slice 48,[]⟩),
 (46,⟨22,448,true,[dg,dg,dg,dg,dg,dg,dg,d7,dg,dg,dg,dg,dg,d7,dg,d7,d7,d7,dg,dg,dg,dg],.struct [(0,37),(13,40),(15,3),(16,3),(17,3),(18,41),(19,42),(20,43),(21,44)],[]⟩),
 (48,⟨6,72,true,[d7,d7,dg,d7,my,d7],.struct [(0,3),(1,3),(2,41),(3,3),(4,9),(5,3)],[]⟩),
 (55,⟨1,24,false,[dg],.slice 4,[]⟩),
 (68,⟨1,24,false,[dg],.slice 40,[]⟩),
 (70,⟨8,80,true,[d7,d7,d7,d7,d7,dg,d7,d7],.struct [(0,3),(1,3),(2,3),(3,3),(4,3),(5,68),(6,3),(7,3)],[]⟩),
 (73,⟨3,48,true,[my,dg,d7],.struct [(0,9),(1,35),(2,3)],[]⟩),
 (80,⟨1,24,false,[dg],.slice 95,[]⟩),
 (82,⟨4,64,true,[d7,d7,dg,dg],.struct [(0,3),(1,3),(2,80),(3,41)],[]⟩),
 (93,⟨2,24,true,[my,d7],.struct [(0,9),(1,3)],[2,0]⟩),
 (95,⟨4,32,true,[d7,d7,d7,d7],.struct [(0,3),(1,3),(2,3),(3,3)],[0,0,0,0]⟩),
 (97,⟨6,48,true,[d7,d7,d7,d7,d7,d7],.struct [(0,95),(4,3),(5,3)],[]⟩),
 (99,⟨9,72,true,[d7,d7,d7,d7,d7,d7,d7,d7,Hm],.struct [(0,97),(6,3),(7,3),(8,4)],[]⟩),
 (100,⟨1,24,false,[dg],.slice 99,[]⟩),
 (102,⟨2,48,true,[dg,dg],.struct [(0,100),(1,35)],[]⟩),
 (103,⟨1,24,false,[dg],.slice 9,[]⟩),
 (104,⟨1,24,false,[dg],.slice 106,[]⟩),
 (106,⟨5,72,true,[d7,d7,my,my,dg],.struct [(0,3),(1,3),(2,9),(3,9),(4,104)],[]⟩),
 (108,⟨4,32,true,[d7,d7,d7,d7],.struct [(0,3),(1,3),(2,3),(3,3)],[0,0,0,0]⟩),
 (110,⟨20,232,true,[my,dg,dg,d7,d7,d7,Hm,d7,d7,d7,my,my,dg,d7,d7,d7,d7,d7,d7,d7],.struct [(0,9),(1,103),(2,103),(3,3),(4,3),(5,3),(6,4),(7,3),(8,106),(13,108),(17,3),(18,3),(19,3)],[]⟩),
 (112,⟨3,40,true,[d7,dg,d7],.struct [(0,3),(1,80),(2,3)],[]⟩),
 (113,⟨1,24,false,[dg],.slice 116,[]⟩),
 (116,⟨4,48,true,[d7,d7,d7,dg],.struct [(0,3),(1,3),(2,3),(3,68)],[]⟩),
 (119,⟨6,88,true,[my,d7,d7,my,my,dg],.struct [(0,9),(1,106)],[]⟩),
 (120,⟨1,24,false,[dg],.slice 41,[]⟩),
 (121,⟨1,24,false,[dg],.slice 41,[]⟩),
 (144,⟨3,40,true,[d7,dg,Hm],.struct [(0,3),(1,41),(2,4)],[]⟩),
 (148,⟨2,16,true,[d7,d7],.struct [(0,3),(1,3)],[0,0]⟩),
 (151,⟨1,8,false,[.int .u64 0],.int .u64,[]⟩),
 (163,⟨1,8,false,[.pointer none],.other,[]⟩),
 (165,⟨10,224,true,[dg,dg,dg,dg,dg,dg,dg,d7,dg,dg],.struct [(0,30),(8,80),(9,100)],[]⟩),
 (169,⟨1,8,false,[.nilFunc],.other,[]⟩),
 (171,⟨2,24,true,[my,.nilFunc],.struct [(0,9),(1,169)],[]⟩),
 (172,⟨18,216,true,[my,.nilFunc,my,.nilFunc,my,.nilFunc,my,.nilFunc,my,.nilFunc,my,.nilFunc,my,.nilFunc,my,.nilFunc,my,.nilFunc],.arr 9 171,[]⟩),
 (175,⟨21,440,true,[dg,dg,dg,dg,dg,dg,dg,d7,dg,dg,dg,dg,dg,d7,d7,dg,dg,d7,dg,dg,dg],.struct [(0,37),(13,82),(17,40),(19,100),(20,103)],[]⟩),
 (182,⟨1,24,false,[dg],.slice 227,[]⟩),
 (185,⟨1,24,false,[dg],.slice 80,[]⟩),
 (188,⟨6,96,true,[my,my,my,my,my,my],.arr 6 9,[]⟩),
 (221,⟨1,24,false,[dg],.slice 108,[]⟩),
 (227,⟨3,40,true,[d7,d7,dg],.struct [(0,3),(1,3),(2,80)],[]⟩),
 (241,⟨1,24,false,[dg],.slice 286,[]⟩),
 (251,⟨1,24,false,[dg],.slice 301,[]⟩),
 (253,⟨4,56,true,[my,d7,d7,dg],.struct [(0,9),(1,3),(2,3),(3,251)],[]⟩),
 (257,⟨3,48,true,[my,Hm,dg],.struct [(0,9),(1,4),(2,251)],[]⟩),
 (261,⟨1,8,false,[.map none],.map 9 3,[]⟩),
 (263,⟨10,208,true,[dg,dg,dg,dg,dg,dg,dg,d7,.map none,dg],.struct [(0,30),(8,261),(9,103)],[]⟩),
 (270,⟨10,80,true,[d7,d7,d7,d7,d7,d7,d7,d7,d7,Hm],.struct [(0,3),(1,99)],[]⟩),
 (282,⟨1,24,false,[dg],.slice 284,[]⟩),
 (284,⟨2,16,true,[d7,d7],.struct [(0,3),(1,3)],[0,0]⟩),
 (286,⟨3,40,true,[d7,d7,dg],.struct [(0,3),(1,3),(2,282)],[]⟩),
 (296,⟨1,8,false,[.map none],.map 9 4,[]⟩),
 (301,⟨2,16,true,[d7,d7],.struct [(0,3),(1,3)],[0,0]⟩),
 (333,⟨4,32,true,[d7,d7,d7,d7],.arr 4 3,[]⟩),
 (345,⟨1,24,false,[dg],.slice 348,[]⟩),
 (348,⟨4,32,true,[d7,d7,d7,d7],.struct [(0,301),(2,301)],[]⟩),
 (350,⟨2,48,true,[dg,dg],.struct [(0,22),(1,120)],[]⟩),
 (360,⟨1,24,false,[dg],.slice 282,[]⟩),
 (413,⟨3,24,true,[d7,d7,d7],.struct [(0,3),(1,3),(2,3)],[0,0,0]⟩),
 (415,⟨6,72,true,[my,d7,d7,d7,d7,dg],.struct [(0,9),(1,413),(4,3),(5,28)],[]⟩),
 (417,⟨4,32,true,[d7,d7,d7,d7],.struct [(0,3),(1,413)],[]⟩)]
def aq3:List (TypeId×CT SI):=[(3,(.int .i64)),(4,.bool),(9,.str),(40,(.st SI.i8)),(42,(.sl (.st SI.rm))),(48,(.st SI.Claim)),(73,(.st SI.Table)),(80,(.sl (.st SI.np))),(82,(.st SI.Lot)),(93,(.st SI.Entry)),(95,(.st SI.np)),(99,(.st SI.km)),(102,(.st SI.Phase)),(108,(.st SI.ip)),(148,(.st SI.rm)),(227,(.st SI.mj)),(282,(.sl (.st SI.span))),(284,(.st SI.span)),(286,(.st SI.strip)),(348,(.st SI.side))]
def apE:TypeId->Option (CT xx.ι):=lk aq3
theorem apF:fw Tryz.prog (iE tab):=aex (by kernel_rfl)
theorem mixed:Tryz.prog.follows .mixedOrders=true:=Checked.mixed Tryz.checked
theorem cq{f:FuncId}{fn:Func}{l:List (FuncId×cw xx)}(hΓ:tI Tryz.prog (zv l))(hfn:Tryz.prog.funcs[f]? =some fn){s:cw xx}(h:Hn SI)(n:Nat)
 (hq : (fn.body.isSome && !(fn.name == "runtime.NumGoroutine") && decide (s.args.length <= fn.ntmps /\ xg s.args <= 1000 /\ (s.res.filter RT.out).length = xg s.args)) = true := by kernel_rfl) (hg : s.gen = none := by rfl)
 (hr:∀a,run (zv l) (iE tab) apE fn.ntmps n (fn.body.getD .skip) (tO xx s.res) h (C1 s.args a) (aqT (iE tab) fn.results.toList s.res)=s.fn a:=by intro _;kernel_rfl):Hi Tryz.prog f s:=by
 rw[aY,aY]at hq;obtain⟨⟨q1,q2⟩,q3⟩:=hq;have hb:fn.body=some (fn.body.getD .skip):=by
  cases hc:fn.body with
  |none=>rw[hc]at q1;cases q1
  |some c=>rfl
 have hn : (fn.name == "runtime.NumGoroutine") = false := by simpa using q2
 exact ws (qh hfn hb hn) (λ a _ e=>aqU apF mixed hΓ hfn hb hn _ _ (of_decide_eq_true q3) h n ((hr a).trans e)) hg
theorem pD{f:FuncId}{fn:Func}{l:List (FuncId×cw xx)}(hΓ:tI Tryz.prog (zv l))(hfn:Tryz.prog.funcs[f]? =some fn){g:ea xx}(h:Hn SI)(n:Nat)
 (hq : (fn.body.isSome && !(fn.name == "runtime.NumGoroutine") && decide (g.qT.length <= fn.ntmps) && g.C2) = true)
 (hr:∀v,run (zv l) (iE tab) apE fn.ntmps n (fn.body.getD .skip) (VT (X:=xx) (AO g).vars) h (HN g v) (apz (iE tab) fn.results.toList g)=g.fn v):Hi Tryz.prog f ⟨[],[.d .bool],λ_=>none,some g⟩:=by
 rw[aY,aY,aY]at hq;obtain⟨⟨⟨q1,q2⟩,q3⟩,q4⟩:=hq;have hb:fn.body=some (fn.body.getD .skip):=by
  cases hc:fn.body with
  |none=>rw[hc]at q1;cases q1
  |some c=>rfl
 have hn : (fn.name == "runtime.NumGoroutine") = false := by simpa using q2
 exact ap3 (qh hfn hb hn) (ap4 apF mixed hΓ hfn hb hn g (of_decide_eq_true q3) q4 h n (λ v _ e=>(hr v).trans e))
theorem gcn:tI Tryz.prog (zv ([]:List (FuncId×cw xx))):=ay
abbrev af:CT SI:=.int .i64
abbrev bA:CT SI:=.st SI.Def
abbrev gL:CT SI:=.st SI.Entry
abbrev aX:CT SI:=.st SI.Table
abbrev bD:CT SI:=.st SI.Zone
abbrev aV:CT SI:=.st SI.Rule
abbrev bH:CT SI:=.st SI.Cap
abbrev aW:CT SI:=.st SI.ia
abbrev bE:CT SI:=.st SI.View
abbrev aA:CT SI:=.st SI.np
abbrev aD:CT SI:=.st SI.km
abbrev fJ:CT SI:=.st SI.rm
abbrev dL:CT SI:=.st SI.Claim
abbrev dx:CT SI:=.st SI.fY
abbrev gI:CT SI:=.st SI.wg
abbrev eT:CT SI:=.st SI.i8
abbrev aC(f:Nat)(s:cw xx):Prop:=Hi Tryz.prog f s
abbrev gU:=(List gK)×(List bQ)×(List fG)×(List cK)×(List jE)×(List iw)×(List dH)×Int×(List ax)×(List aF)
end Go.Proofs
