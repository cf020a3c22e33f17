import Derived.Test.YtnclkjejgffdmaaGreatH1
import Derived.Test.YtnclkjejgffdmaaGreatChecked
namespace Go.Proofs
open Go.Gb Go.RowKit
structure cu where
 op:Int
 n:Int
 s:ByteArray
 key:ByteArray
 args:(List cu)
mutual
def rF:cu->List Tree
 |⟨f0,f1,f2,f3,f4⟩=>[.sc (.int .i64 f0),.sc (.int .i64 f1),.sc (.string f2),.sc (.string f3),.sl (tK f4)]
def tK:List cu->List (List Tree)
 |[]=>[]
 |x::xs=>rF x::tK xs
end
theorem tL:∀l:List cu,tK l=l.map rF
 |[]=>rfl
 |x::xs=>by rw[tK,tL xs];rfl
theorem Xq(x:cu):rF x=[.sc (.int .i64 x.op),.sc (.int .i64 x.n),.sc (.string x.s),.sc (.string x.key),.sl (x.args.map rF)]:=by cases x;simp only[rF,tL]
structure gH where
 name:ByteArray
 jp:Int
 ml:Int
 lh:ByteArray
 i9:ByteArray
 eQ:(List cu)
def Bo(x:gH):List Tree:=[.sc (.string x.name),.sc (.int .i64 x.jp),.sc (.int .i64 x.ml),.sc (.string x.lh),.sc (.string x.i9),.sl (x.eQ.map rF)]
structure aZ where
 name:ByteArray
 n:Int
 deriving DecidableEq,Inhabited
def CY(x:aZ):List Tree:=[.sc (.string x.name),.sc (.int .i64 x.n)]
structure bO where
 name:ByteArray
 rows:(List aZ)
 rk:Int
 deriving DecidableEq,Inhabited
def CZ(x:bO):List Tree:=[.sc (.string x.name),.sl (x.rows.map CY),.sc (.int .i64 x.rk)]
structure dP where
 x:Int
 y:Int
 deriving DecidableEq,Inhabited
def Xr(x:dP):List Tree:=[.sc (.int .i64 x.x),.sc (.int .i64 x.y)]
structure fC where
 name:ByteArray
 overlay:Bool
 corners:(List dP)
 deriving DecidableEq,Inhabited
def JO(x:fC):List Tree:=[.sc (.string x.name),.sc (.bool x.overlay),.sl (x.corners.map Xr)]
structure bX where
 name:ByteArray
 zones:(List ByteArray)
 except:(List ByteArray)
 from_:Int
 kB:Int
 AG:Int
 vary:Bool
 kind:Int
 lv:Int
 nj:Int
 nh:ByteArray
 ke:ByteArray
 gh:(List cu)
 iS:Int
 i6:Int
 kf:Int
 kh:Int
 uses:Int
 other:Int
 n:Int
def vV(x:bX):List Tree:=[.sc (.string x.name),.sl (x.zones.map (λ y=>[.sc (.string y)])),.sl (x.except.map (λ y=>[.sc (.string y)])),.sc (.int .i64 x.from_),.sc (.int .i64 x.kB),.sc (.int .i64 x.AG),.sc (.bool x.vary),.sc (.int .i64 x.kind),.sc (.int .i64 x.lv),.sc (.int .i64 x.nj),.sc (.string x.nh),.sc (.string x.ke),.sl (x.gh.map rF),.sc (.int .i64 x.iS),.sc (.int .i64 x.i6),.sc (.int .i64 x.kf),.sc (.int .i64 x.kh),.sc (.int .i64 x.uses),.sc (.int .i64 x.other),.sc (.int .i64 x.n)]
structure jA where
 name:ByteArray
 load:Int
 limit:Int
 corners:(List dP)
 deriving DecidableEq,Inhabited
def EB(x:jA):List Tree:=[.sc (.string x.name),.sc (.int .i64 x.load),.sc (.int .i64 x.limit),.sl (x.corners.map Xr)]
structure dD where
 x:Int
 y:Int
 z:Int
 deriving DecidableEq,Inhabited
def vF(x:dD):List Tree:=[.sc (.int .i64 x.x),.sc (.int .i64 x.y),.sc (.int .i64 x.z)]
structure ig where
 name:ByteArray
 AN:Int
 AM:Int
 AK:Int
 least:Int
 targets:(List dD)
 deriving DecidableEq,Inhabited
def JP(x:ig):List Tree:=[.sc (.string x.name),.sc (.int .i64 x.AN),.sc (.int .i64 x.AM),.sc (.int .i64 x.AK),.sc (.int .i64 x.least),.sl (x.targets.map vF)]
structure ax where
 x0:Int
 y0:Int
 x1:Int
 y1:Int
 deriving DecidableEq,Inhabited
def JQ(x:ax):List Tree:=[.sc (.int .i64 x.x0),.sc (.int .i64 x.y0),.sc (.int .i64 x.x1),.sc (.int .i64 x.y1)]
structure fw where
 id:Int
 owner:Int
 area:(List ax)
 from_:(List Int)
 deriving DecidableEq,Inhabited
def Ir(x:fw):List Tree:=[.sc (.int .i64 x.id),.sc (.int .i64 x.owner),.sl (x.area.map JQ),.sl (x.from_.map (λ y=>[.sc (.int .i64 y)]))]
structure lg where
 lot:Int
 area:(List ax)
 top:Int
 deriving DecidableEq,Inhabited
def Ak(x:lg):List Tree:=[.sc (.int .i64 x.lot),.sl (x.area.map JQ),.sc (.int .i64 x.top)]
structure NQ where
 lot:Int
 L3:Int
 L0:Int
 LS:Int
 deriving DecidableEq,Inhabited
def JR(x:NQ):List Tree:=[.sc (.int .i64 x.lot),.sc (.int .i64 x.L3),.sc (.int .i64 x.L0),.sc (.int .i64 x.LS)]
structure jm where
 lot:Int
 eJ:Int
 eE:Int
 eI:Int
 eC:Int
 lR:Int
 lP:Int
 fp:Int
 mz:Int
 mA:Bool
 deriving DecidableEq,Inhabited
def JS(x:jm):List Tree:=[.sc (.int .i64 x.lot),.sc (.int .i64 x.eJ),.sc (.int .i64 x.eE),.sc (.int .i64 x.eI),.sc (.int .i64 x.eC),.sc (.int .i64 x.lR),.sc (.int .i64 x.lP),.sc (.int .i64 x.fp),.sc (.int .i64 x.mz),.sc (.bool x.mA)]
structure aF where
 bz:Int
 cz:Int
 bx:Int
 cy:Int
 eR:Int
 ej:Int
 use:Int
 units:Int
 extra:Bool
 deriving DecidableEq,Inhabited
def JU(x:aF):List Tree:=[.sc (.int .i64 x.bz),.sc (.int .i64 x.cz),.sc (.int .i64 x.bx),.sc (.int .i64 x.cy),.sc (.int .i64 x.eR),.sc (.int .i64 x.ej),.sc (.int .i64 x.use),.sc (.int .i64 x.units),.sc (.bool x.extra)]
structure kW where
 bk:(List aF)
 gives:(List aZ)
 deriving DecidableEq,Inhabited
def yS(x:kW):List Tree:=[.sl (x.bk.map JU),.sl (x.gives.map CY)]
structure dH where
 from_:Int
 to:Int
 deriving DecidableEq,Inhabited
def ai5(x:dH):List Tree:=[.sc (.int .i64 x.from_),.sc (.int .i64 x.to)]
structure Al where
 id:Int
 values:(List Int)
 grant:Bool
 deriving DecidableEq,Inhabited
def ai6(x:Al):List Tree:=[.sc (.int .i64 x.id),.sl (x.values.map (λ y=>[.sc (.int .i64 y)])),.sc (.bool x.grant)]
structure aL where
 km:Int
 day:Int
 attacks:(List Int)
 d6:Int
 name:ByteArray
 n:Int
 deriving DecidableEq,Inhabited
def yT(x:aL):List Tree:=[.sc (.int .i64 x.km),.sc (.int .i64 x.day),.sl (x.attacks.map (λ y=>[.sc (.int .i64 y)])),.sc (.int .i64 x.d6),.sc (.string x.name),.sc (.int .i64 x.n)]
structure aG where
 cj:(List gH)
 aw:(List bO)
 b7:(List fC)
 aE:(List bX)
 br:(List jA)
 b8:(List ig)
 cw:(List dD)
 b9:Int
 df:(List fw)
 cR:(List lg)
 c8:(List NQ)
 cX:(List jm)
 ek:(List aZ)
 cd:Int
 cg:(List kW)
 rule:Int
 ix:Int
 gz:Int
 eV:(List Int)
 stays:(List dH)
 cases:(List Al)
 claims:(List aL)
def jB(x:aG):List Tree:=[.sl (x.cj.map Bo),.sl (x.aw.map CZ),.sl (x.b7.map JO),.sl (x.aE.map vV),.sl (x.br.map EB),.sl (x.b8.map JP),.sl (x.cw.map vF),.sc (.int .i64 x.b9),.sl (x.df.map Ir),.sl (x.cR.map Ak),.sl (x.c8.map JR),.sl (x.cX.map JS),.sl (x.ek.map CY),.sc (.int .i64 x.cd),.sl (x.cg.map yS),.sc (.int .i64 x.rule),.sc (.int .i64 x.ix),.sc (.int .i64 x.gz),.sl (x.eV.map (λ y=>[.sc (.int .i64 y)])),.sl (x.stays.map ai5),.sl (x.cases.map ai6),.sl (x.claims.map yT)]
structure bL where
 defs:(List gH)
 tables:(List bO)
 zones:(List fC)
 rules:(List bX)
 caps:(List jA)
 views:(List ig)
 wc:(List dD)
 hours:Int
def an8(x:bL):List Tree:=[.sl (x.defs.map Bo),.sl (x.tables.map CZ),.sl (x.zones.map JO),.sl (x.rules.map vV),.sl (x.caps.map EB),.sl (x.views.map JP),.sl (x.wc.map vF),.sc (.int .i64 x.hours)]
structure aM where
 lot:Int
 phases:(List kW)
 deriving DecidableEq,Inhabited
def vG(x:aM):List Tree:=[.sc (.int .i64 x.lot),.sl (x.phases.map yS)]
structure aN where
 from_:Int
 to:Int
 deriving DecidableEq,Inhabited
def ai7(x:aN):List Tree:=[.sc (.int .i64 x.from_),.sc (.int .i64 x.to)]
structure bP where
 x0:Int
 x1:Int
 column:(List aN)
 deriving DecidableEq,Inhabited
def amr(x:bP):List Tree:=[.sc (.int .i64 x.x0),.sc (.int .i64 x.x1),.sl (x.column.map ai7)]
structure dX where
 cC:(List gH)
 ci:(List bO)
 ct:(List fC)
 aq:(List bX)
 cM:(List jA)
 cP:(List ig)
 dt:(List dD)
 cQ:Int
 land:(List fw)
 cE:(List lg)
 windows:(List NQ)
 built:(List jm)
 base:(List aZ)
def Am(x:dX):List Tree:=[.sl (x.cC.map Bo),.sl (x.ci.map CZ),.sl (x.ct.map JO),.sl (x.aq.map vV),.sl (x.cM.map EB),.sl (x.cP.map JP),.sl (x.dt.map vF),.sc (.int .i64 x.cQ),.sl (x.land.map Ir),.sl (x.cE.map Ak),.sl (x.windows.map JR),.sl (x.built.map JS),.sl (x.base.map CY)]
structure aoU where
 cC:(List gH)
 ci:(List bO)
 ct:(List fC)
 aq:(List bX)
 cM:(List jA)
 cP:(List ig)
 dt:(List dD)
 cQ:Int
 area:(List ax)
 bk:(List aF)
def an9(x:aoU):List Tree:=[.sl (x.cC.map Bo),.sl (x.ci.map CZ),.sl (x.ct.map JO),.sl (x.aq.map vV),.sl (x.cM.map EB),.sl (x.cP.map JP),.sl (x.dt.map vF),.sc (.int .i64 x.cQ),.sl (x.area.map JQ),.sl (x.bk.map JU)]
structure JV where
 a0:ByteArray
 a1:ByteArray
 a2:ByteArray
 a3:ByteArray
 a4:ByteArray
 a5:ByteArray
 deriving DecidableEq,Inhabited
def ake(x:JV):List Tree:=[.sc (.string x.a0),.sc (.string x.a1),.sc (.string x.a2),.sc (.string x.a3),.sc (.string x.a4),.sc (.string x.a5)]
structure Fo where
 px:Int
 pr:Int
 pw:Int
 pp:Int
 z0:Int
 z1:Int
 deriving DecidableEq,Inhabited
def apw(x:Fo):List Tree:=[.sc (.int .i64 x.px),.sc (.int .i64 x.pr),.sc (.int .i64 x.pw),.sc (.int .i64 x.pp),.sc (.int .i64 x.z0),.sc (.int .i64 x.z1)]
structure jJ where
 mm:Int
 qt:Int
 mT:Int
 vl:Int
 deriving DecidableEq,Inhabited
def aoa(x:jJ):List Tree:=[.sc (.int .i64 x.mm),.sc (.int .i64 x.qt),.sc (.int .i64 x.mT),.sc (.int .i64 x.vl)]
structure mK where
 cj:(List gH)
 aw:(List bO)
 b7:(List fC)
 aE:(List bX)
 br:(List jA)
 b8:(List ig)
 cw:(List dD)
 b9:Int
 df:(List fw)
 cR:(List lg)
 c8:(List NQ)
 cX:(List jm)
 ek:(List aZ)
 tz:Int
 nq:Int
 k9:(List ax)
 pN:(List Int)
 cd:Int
 cg:(List kW)
 bk:(List aF)
 zones:(List ByteArray)
def ams(x:mK):List Tree:=[.sl (x.cj.map Bo),.sl (x.aw.map CZ),.sl (x.b7.map JO),.sl (x.aE.map vV),.sl (x.br.map EB),.sl (x.b8.map JP),.sl (x.cw.map vF),.sc (.int .i64 x.b9),.sl (x.df.map Ir),.sl (x.cR.map Ak),.sl (x.c8.map JR),.sl (x.cX.map JS),.sl (x.ek.map CY),.sc (.int .i64 x.tz),.sc (.int .i64 x.nq),.sl (x.k9.map JQ),.sl (x.pN.map (λ y=>[.sc (.int .i64 y)])),.sc (.int .i64 x.cd),.sl (x.cg.map yS),.sl (x.bk.map JU),.sl (x.zones.map (λ y=>[.sc (.string y)]))]
structure pX where
 defs:(List gH)
 uses:(List (List Int))
def amt(x:pX):List Tree:=[.sl (x.defs.map Bo),.sl (x.uses.map (λ y=>[.sl (y.map (λ y=>[.sc (.int .i64 y)]))]))]
structure gm where
 z0:Int
 z1:Int
 area:(List ax)
 deriving DecidableEq,Inhabited
def aoc(x:gm):List Tree:=[.sc (.int .i64 x.z0),.sc (.int .i64 x.z1),.sl (x.area.map JQ)]
structure dO where
 side:Int
 base:Int
 num:Int
 den:Int
 deriving DecidableEq,Inhabited
def amu(x:dO):List Tree:=[.sc (.int .i64 x.side),.sc (.int .i64 x.base),.sc (.int .i64 x.num),.sc (.int .i64 x.den)]
structure NR where
 a0:Int
 a1:Int
 a2:Int
 a3:Int
 deriving DecidableEq,Inhabited
def akf(x:NR):List Tree:=[.sc (.int .i64 x.a0),.sc (.int .i64 x.a1),.sc (.int .i64 x.a2),.sc (.int .i64 x.a3)]
structure Iu where
 id:Int
 holder:Int
 state:Int
 day:Int
 rule:Int
 i8:(List aM)
 choice:Int
 into:Int
 deriving DecidableEq,Inhabited
def ahr(x:Iu):List Tree:=[.sc (.int .i64 x.id),.sc (.int .i64 x.holder),.sc (.int .i64 x.state),.sc (.int .i64 x.day),.sc (.int .i64 x.rule),.sl (x.i8.map vG),.sc (.int .i64 x.choice),.sc (.int .i64 x.into)]
structure P0 where
 kind:Int
 day:Int
 n:Int
 i8:(List aM)
 deriving DecidableEq,Inhabited
def apx(x:P0):List Tree:=[.sc (.int .i64 x.kind),.sc (.int .i64 x.day),.sc (.int .i64 x.n),.sl (x.i8.map vG)]
inductive SI where
 |Expr
 |Def
 |Entry
 |Table
 |js
 |Zone
 |Rule
 |Cap
 |gj
 |View
 |m6
 |Lot
 |fj
 |Window
 |gx
 |j7
 |Phase
 |ra
 |Case
 |Claim
 |fm
 |vn
 |iv
 |span
 |strip
 |pf
 |site
 |nw
 |G0
 |side
 |kO
 |graph
 |lO
 |hZ
 |nF
 |lE
 |Act
 deriving DecidableEq
@[reducible] def TT:SI->Type
 | .Expr=>cu
 | .Def=>gH
 | .Entry=>aZ
 | .Table=>bO
 | .js=>dP
 | .Zone=>fC
 | .Rule=>bX
 | .Cap=>jA
 | .gj=>dD
 | .View=>ig
 | .m6=>ax
 | .Lot=>fw
 | .fj=>lg
 | .Window=>NQ
 | .gx=>jm
 | .j7=>aF
 | .Phase=>kW
 | .ra=>dH
 | .Case=>Al
 | .Claim=>aL
 | .fm=>aG
 | .vn=>bL
 | .iv=>aM
 | .span=>aN
 | .strip=>bP
 | .pf=>dX
 | .site=>aoU
 | .nw=>JV
 | .G0=>Fo
 | .side=>jJ
 | .kO=>mK
 | .graph=>pX
 | .lO=>gm
 | .hZ=>dO
 | .nF=>NR
 | .lE=>Iu
 | .Act=>P0
def aqK:(i:SI)->TT i->List Tree
 | .Expr,x=>rF x
 | .Def,x=>Bo x
 | .Entry,x=>CY x
 | .Table,x=>CZ x
 | .js,x=>Xr x
 | .Zone,x=>JO x
 | .Rule,x=>vV x
 | .Cap,x=>EB x
 | .gj,x=>vF x
 | .View,x=>JP x
 | .m6,x=>JQ x
 | .Lot,x=>Ir x
 | .fj,x=>Ak x
 | .Window,x=>JR x
 | .gx,x=>JS x
 | .j7,x=>JU x
 | .Phase,x=>yS x
 | .ra,x=>ai5 x
 | .Case,x=>ai6 x
 | .Claim,x=>yT x
 | .fm,x=>jB x
 | .vn,x=>an8 x
 | .iv,x=>vG x
 | .span,x=>ai7 x
 | .strip,x=>amr x
 | .pf,x=>Am x
 | .site,x=>an9 x
 | .nw,x=>ake x
 | .G0,x=>apw x
 | .side,x=>aoa x
 | .kO,x=>ams x
 | .graph,x=>amt x
 | .lO,x=>aoc x
 | .hZ,x=>amu x
 | .nF,x=>akf x
 | .lE,x=>ahr x
 | .Act,x=>apx x
def se:SE:=⟨SI,inferInstance,TT,aqK⟩
def apy:SI->List (CT SI)
 | .Expr=>[(.int .i64),(.int .i64),.str,.str,(.sl (.st SI.Expr))]
 | .Def=>[.str,(.int .i64),(.int .i64),.str,.str,(.sl (.st SI.Expr))]
 | .Entry=>[.str,(.int .i64)]
 | .Table=>[.str,(.sl (.st SI.Entry)),(.int .i64)]
 | .js=>[(.int .i64),(.int .i64)]
 | .Zone=>[.str,.bool,(.sl (.st SI.js))]
 | .Rule=>[.str,(.sl .str),(.sl .str),(.int .i64),(.int .i64),(.int .i64),.bool,(.int .i64),(.int .i64),(.int .i64),.str,.str,(.sl (.st SI.Expr)),(.int .i64),(.int .i64),(.int .i64),(.int .i64),(.int .i64),(.int .i64),(.int .i64)]
 | .Cap=>[.str,(.int .i64),(.int .i64),(.sl (.st SI.js))]
 | .gj=>[(.int .i64),(.int .i64),(.int .i64)]
 | .View=>[.str,(.int .i64),(.int .i64),(.int .i64),(.int .i64),(.sl (.st SI.gj))]
 | .m6=>[(.int .i64),(.int .i64),(.int .i64),(.int .i64)]
 | .Lot=>[(.int .i64),(.int .i64),(.sl (.st SI.m6)),(.sl (.int .i64))]
 | .fj=>[(.int .i64),(.sl (.st SI.m6)),(.int .i64)]
 | .Window=>[(.int .i64),(.int .i64),(.int .i64),(.int .i64)]
 | .gx=>[(.int .i64),(.int .i64),(.int .i64),(.int .i64),(.int .i64),(.int .i64),(.int .i64),(.int .i64),(.int .i64),.bool]
 | .j7=>[(.int .i64),(.int .i64),(.int .i64),(.int .i64),(.int .i64),(.int .i64),(.int .i64),(.int .i64),.bool]
 | .Phase=>[(.sl (.st SI.j7)),(.sl (.st SI.Entry))]
 | .ra=>[(.int .i64),(.int .i64)]
 | .Case=>[(.int .i64),(.sl (.int .i64)),.bool]
 | .Claim=>[(.int .i64),(.int .i64),(.sl (.int .i64)),(.int .i64),.str,(.int .i64)]
 | .fm=>[(.sl (.st SI.Def)),(.sl (.st SI.Table)),(.sl (.st SI.Zone)),(.sl (.st SI.Rule)),(.sl (.st SI.Cap)),(.sl (.st SI.View)),(.sl (.st SI.gj)),(.int .i64),(.sl (.st SI.Lot)),(.sl (.st SI.fj)),(.sl (.st SI.Window)),(.sl (.st SI.gx)),(.sl (.st SI.Entry)),(.int .i64),(.sl (.st SI.Phase)),(.int .i64),(.int .i64),(.int .i64),(.sl (.int .i64)),(.sl (.st SI.ra)),(.sl (.st SI.Case)),(.sl (.st SI.Claim))]
 | .vn=>[(.sl (.st SI.Def)),(.sl (.st SI.Table)),(.sl (.st SI.Zone)),(.sl (.st SI.Rule)),(.sl (.st SI.Cap)),(.sl (.st SI.View)),(.sl (.st SI.gj)),(.int .i64)]
 | .iv=>[(.int .i64),(.sl (.st SI.Phase))]
 | .span=>[(.int .i64),(.int .i64)]
 | .strip=>[(.int .i64),(.int .i64),(.sl (.st SI.span))]
 | .pf=>[(.sl (.st SI.Def)),(.sl (.st SI.Table)),(.sl (.st SI.Zone)),(.sl (.st SI.Rule)),(.sl (.st SI.Cap)),(.sl (.st SI.View)),(.sl (.st SI.gj)),(.int .i64),(.sl (.st SI.Lot)),(.sl (.st SI.fj)),(.sl (.st SI.Window)),(.sl (.st SI.gx)),(.sl (.st SI.Entry))]
 | .site=>[(.sl (.st SI.Def)),(.sl (.st SI.Table)),(.sl (.st SI.Zone)),(.sl (.st SI.Rule)),(.sl (.st SI.Cap)),(.sl (.st SI.View)),(.sl (.st SI.gj)),(.int .i64),(.sl (.st SI.m6)),(.sl (.st SI.j7))]
 | .nw=>[.str,.str,.str,.str,.str,.str]
 | .G0=>[(.int .i64),(.int .i64),(.int .i64),(.int .i64),(.int .i64),(.int .i64)]
 | .side=>[(.int .i64),(.int .i64),(.int .i64),(.int .i64)]
 | .kO=>[(.sl (.st SI.Def)),(.sl (.st SI.Table)),(.sl (.st SI.Zone)),(.sl (.st SI.Rule)),(.sl (.st SI.Cap)),(.sl (.st SI.View)),(.sl (.st SI.gj)),(.int .i64),(.sl (.st SI.Lot)),(.sl (.st SI.fj)),(.sl (.st SI.Window)),(.sl (.st SI.gx)),(.sl (.st SI.Entry)),(.int .i64),(.int .i64),(.sl (.st SI.m6)),(.sl (.int .i64)),(.int .i64),(.sl (.st SI.Phase)),(.sl (.st SI.j7)),(.sl .str)]
 | .graph=>[(.sl (.st SI.Def)),(.sl (.sl (.int .i64)))]
 | .lO=>[(.int .i64),(.int .i64),(.sl (.st SI.m6))]
 | .hZ=>[(.int .i64),(.int .i64),(.int .i64),(.int .i64)]
 | .nF=>[(.int .i64),(.int .i64),(.int .i64),(.int .i64)]
 | .lE=>[(.int .i64),(.int .i64),(.int .i64),(.int .i64),(.int .i64),(.sl (.st SI.iv)),(.int .i64),(.int .i64)]
 | .Act=>[(.int .i64),(.int .i64),(.int .i64),(.sl (.st SI.iv))]
def aqL:(i:SI)->TT i->HL se (apy i)
 | .Expr,x=>(x.op,x.n,x.s,x.key,x.args,())
 | .Def,x=>(x.name,x.jp,x.ml,x.lh,x.i9,x.eQ,())
 | .Entry,x=>(x.name,x.n,())
 | .Table,x=>(x.name,x.rows,x.rk,())
 | .js,x=>(x.x,x.y,())
 | .Zone,x=>(x.name,x.overlay,x.corners,())
 | .Rule,x=>(x.name,x.zones,x.except,x.from_,x.kB,x.AG,x.vary,x.kind,x.lv,x.nj,x.nh,x.ke,x.gh,x.iS,x.i6,x.kf,x.kh,x.uses,x.other,x.n,())
 | .Cap,x=>(x.name,x.load,x.limit,x.corners,())
 | .gj,x=>(x.x,x.y,x.z,())
 | .View,x=>(x.name,x.AN,x.AM,x.AK,x.least,x.targets,())
 | .m6,x=>(x.x0,x.y0,x.x1,x.y1,())
 | .Lot,x=>(x.id,x.owner,x.area,x.from_,())
 | .fj,x=>(x.lot,x.area,x.top,())
 | .Window,x=>(x.lot,x.L3,x.L0,x.LS,())
 | .gx,x=>(x.lot,x.eJ,x.eE,x.eI,x.eC,x.lR,x.lP,x.fp,x.mz,x.mA,())
 | .j7,x=>(x.bz,x.cz,x.bx,x.cy,x.eR,x.ej,x.use,x.units,x.extra,())
 | .Phase,x=>(x.bk,x.gives,())
 | .ra,x=>(x.from_,x.to,())
 | .Case,x=>(x.id,x.values,x.grant,())
 | .Claim,x=>(x.km,x.day,x.attacks,x.d6,x.name,x.n,())
 | .fm,x=>(x.cj,x.aw,x.b7,x.aE,x.br,x.b8,x.cw,x.b9,x.df,x.cR,x.c8,x.cX,x.ek,x.cd,x.cg,x.rule,x.ix,x.gz,x.eV,x.stays,x.cases,x.claims,())
 | .vn,x=>(x.defs,x.tables,x.zones,x.rules,x.caps,x.views,x.wc,x.hours,())
 | .iv,x=>(x.lot,x.phases,())
 | .span,x=>(x.from_,x.to,())
 | .strip,x=>(x.x0,x.x1,x.column,())
 | .pf,x=>(x.cC,x.ci,x.ct,x.aq,x.cM,x.cP,x.dt,x.cQ,x.land,x.cE,x.windows,x.built,x.base,())
 | .site,x=>(x.cC,x.ci,x.ct,x.aq,x.cM,x.cP,x.dt,x.cQ,x.area,x.bk,())
 | .nw,x=>(x.a0,x.a1,x.a2,x.a3,x.a4,x.a5,())
 | .G0,x=>(x.px,x.pr,x.pw,x.pp,x.z0,x.z1,())
 | .side,x=>(x.mm,x.qt,x.mT,x.vl,())
 | .kO,x=>(x.cj,x.aw,x.b7,x.aE,x.br,x.b8,x.cw,x.b9,x.df,x.cR,x.c8,x.cX,x.ek,x.tz,x.nq,x.k9,x.pN,x.cd,x.cg,x.bk,x.zones,())
 | .graph,x=>(x.defs,x.uses,())
 | .lO,x=>(x.z0,x.z1,x.area,())
 | .hZ,x=>(x.side,x.base,x.num,x.den,())
 | .nF,x=>(x.a0,x.a1,x.a2,x.a3,())
 | .lE,x=>(x.id,x.holder,x.state,x.day,x.rule,x.i8,x.choice,x.into,())
 | .Act,x=>(x.kind,x.day,x.n,x.i8,())
def aqc:(i:SI)->HL se (apy i)->TT i
 | .Expr,h=>⟨h.1,h.2.1,h.2.2.1,h.2.2.2.1,h.2.2.2.2.1⟩
 | .Def,h=>⟨h.1,h.2.1,h.2.2.1,h.2.2.2.1,h.2.2.2.2.1,h.2.2.2.2.2.1⟩
 | .Entry,h=>⟨h.1,h.2.1⟩
 | .Table,h=>⟨h.1,h.2.1,h.2.2.1⟩
 | .js,h=>⟨h.1,h.2.1⟩
 | .Zone,h=>⟨h.1,h.2.1,h.2.2.1⟩
 | .Rule,h=>⟨h.1,h.2.1,h.2.2.1,h.2.2.2.1,h.2.2.2.2.1,h.2.2.2.2.2.1,h.2.2.2.2.2.2.1,h.2.2.2.2.2.2.2.1,h.2.2.2.2.2.2.2.2.1,h.2.2.2.2.2.2.2.2.2.1,h.2.2.2.2.2.2.2.2.2.2.1,h.2.2.2.2.2.2.2.2.2.2.2.1,h.2.2.2.2.2.2.2.2.2.2.2.2.1,h.2.2.2.2.2.2.2.2.2.2.2.2.2.1,h.2.2.2.2.2.2.2.2.2.2.2.2.2.2.1,h.2.2.2.2.2.2.2.2.2.2.2.2.2.2.2.1,h.2.2.2.2.2.2.2.2.2.2.2.2.2.2.2.2.1,h.2.2.2.2.2.2.2.2.2.2.2.2.2.2.2.2.2.1,h.2.2.2.2.2.2.2.2.2.2.2.2.2.2.2.2.2.2.1,h.2.2.2.2.2.2.2.2.2.2.2.2.2.2.2.2.2.2.2.1⟩
 | .Cap,h=>⟨h.1,h.2.1,h.2.2.1,h.2.2.2.1⟩
 | .gj,h=>⟨h.1,h.2.1,h.2.2.1⟩
 | .View,h=>⟨h.1,h.2.1,h.2.2.1,h.2.2.2.1,h.2.2.2.2.1,h.2.2.2.2.2.1⟩
 | .m6,h=>⟨h.1,h.2.1,h.2.2.1,h.2.2.2.1⟩
 | .Lot,h=>⟨h.1,h.2.1,h.2.2.1,h.2.2.2.1⟩
 | .fj,h=>⟨h.1,h.2.1,h.2.2.1⟩
 | .Window,h=>⟨h.1,h.2.1,h.2.2.1,h.2.2.2.1⟩
 | .gx,h=>⟨h.1,h.2.1,h.2.2.1,h.2.2.2.1,h.2.2.2.2.1,h.2.2.2.2.2.1,h.2.2.2.2.2.2.1,h.2.2.2.2.2.2.2.1,h.2.2.2.2.2.2.2.2.1,h.2.2.2.2.2.2.2.2.2.1⟩
 | .j7,h=>⟨h.1,h.2.1,h.2.2.1,h.2.2.2.1,h.2.2.2.2.1,h.2.2.2.2.2.1,h.2.2.2.2.2.2.1,h.2.2.2.2.2.2.2.1,h.2.2.2.2.2.2.2.2.1⟩
 | .Phase,h=>⟨h.1,h.2.1⟩
 | .ra,h=>⟨h.1,h.2.1⟩
 | .Case,h=>⟨h.1,h.2.1,h.2.2.1⟩
 | .Claim,h=>⟨h.1,h.2.1,h.2.2.1,h.2.2.2.1,h.2.2.2.2.1,h.2.2.2.2.2.1⟩
 | .fm,h=>⟨h.1,h.2.1,h.2.2.1,h.2.2.2.1,h.2.2.2.2.1,h.2.2.2.2.2.1,h.2.2.2.2.2.2.1,h.2.2.2.2.2.2.2.1,h.2.2.2.2.2.2.2.2.1,h.2.2.2.2.2.2.2.2.2.1,h.2.2.2.2.2.2.2.2.2.2.1,h.2.2.2.2.2.2.2.2.2.2.2.1,h.2.2.2.2.2.2.2.2.2.2.2.2.1,h.2.2.2.2.2.2.2.2.2.2.2.2.2.1,h.2.2.2.2.2.2.2.2.2.2.2.2.2.2.1,h.2.2.2.2.2.2.2.2.2.2.2.2.2.2.2.1,h.2.2.2.2.2.2.2.2.2.2.2.2.2.2.2.2.1,h.2.2.2.2.2.2.2.2.2.2.2.2.2.2.2.2.2.1,h.2.2.2.2.2.2.2.2.2.2.2.2.2.2.2.2.2.2.1,h.2.2.2.2.2.2.2.2.2.2.2.2.2.2.2.2.2.2.2.1,h.2.2.2.2.2.2.2.2.2.2.2.2.2.2.2.2.2.2.2.2.1,h.2.2.2.2.2.2.2.2.2.2.2.2.2.2.2.2.2.2.2.2.2.1⟩
 | .vn,h=>⟨h.1,h.2.1,h.2.2.1,h.2.2.2.1,h.2.2.2.2.1,h.2.2.2.2.2.1,h.2.2.2.2.2.2.1,h.2.2.2.2.2.2.2.1⟩
 | .iv,h=>⟨h.1,h.2.1⟩
 | .span,h=>⟨h.1,h.2.1⟩
 | .strip,h=>⟨h.1,h.2.1,h.2.2.1⟩
 | .pf,h=>⟨h.1,h.2.1,h.2.2.1,h.2.2.2.1,h.2.2.2.2.1,h.2.2.2.2.2.1,h.2.2.2.2.2.2.1,h.2.2.2.2.2.2.2.1,h.2.2.2.2.2.2.2.2.1,h.2.2.2.2.2.2.2.2.2.1,h.2.2.2.2.2.2.2.2.2.2.1,h.2.2.2.2.2.2.2.2.2.2.2.1,h.2.2.2.2.2.2.2.2.2.2.2.2.1⟩
 | .site,h=>⟨h.1,h.2.1,h.2.2.1,h.2.2.2.1,h.2.2.2.2.1,h.2.2.2.2.2.1,h.2.2.2.2.2.2.1,h.2.2.2.2.2.2.2.1,h.2.2.2.2.2.2.2.2.1,h.2.2.2.2.2.2.2.2.2.1⟩
 | .nw,h=>⟨h.1,h.2.1,h.2.2.1,h.2.2.2.1,h.2.2.2.2.1,h.2.2.2.2.2.1⟩
 | .G0,h=>⟨h.1,h.2.1,h.2.2.1,h.2.2.2.1,h.2.2.2.2.1,h.2.2.2.2.2.1⟩
 | .side,h=>⟨h.1,h.2.1,h.2.2.1,h.2.2.2.1⟩
 | .kO,h=>⟨h.1,h.2.1,h.2.2.1,h.2.2.2.1,h.2.2.2.2.1,h.2.2.2.2.2.1,h.2.2.2.2.2.2.1,h.2.2.2.2.2.2.2.1,h.2.2.2.2.2.2.2.2.1,h.2.2.2.2.2.2.2.2.2.1,h.2.2.2.2.2.2.2.2.2.2.1,h.2.2.2.2.2.2.2.2.2.2.2.1,h.2.2.2.2.2.2.2.2.2.2.2.2.1,h.2.2.2.2.2.2.2.2.2.2.2.2.2.1,h.2.2.2.2.2.2.2.2.2.2.2.2.2.2.1,h.2.2.2.2.2.2.2.2.2.2.2.2.2.2.2.1,h.2.2.2.2.2.2.2.2.2.2.2.2.2.2.2.2.1,h.2.2.2.2.2.2.2.2.2.2.2.2.2.2.2.2.2.1,h.2.2.2.2.2.2.2.2.2.2.2.2.2.2.2.2.2.2.1,h.2.2.2.2.2.2.2.2.2.2.2.2.2.2.2.2.2.2.2.1,h.2.2.2.2.2.2.2.2.2.2.2.2.2.2.2.2.2.2.2.2.1⟩
 | .graph,h=>⟨h.1,h.2.1⟩
 | .lO,h=>⟨h.1,h.2.1,h.2.2.1⟩
 | .hZ,h=>⟨h.1,h.2.1,h.2.2.1,h.2.2.2.1⟩
 | .nF,h=>⟨h.1,h.2.1,h.2.2.1,h.2.2.2.1⟩
 | .lE,h=>⟨h.1,h.2.1,h.2.2.1,h.2.2.2.1,h.2.2.2.2.1,h.2.2.2.2.2.1,h.2.2.2.2.2.2.1,h.2.2.2.2.2.2.2.1⟩
 | .Act,h=>⟨h.1,h.2.1,h.2.2.1,h.2.2.2.1⟩
def gvS:Nat->Option ((c:CT SI)×CT.T se c):=λ_=>none
def xx:SX:={ toSE:=se,d8:=apy,get:=aqL,make:=aqc,pg:=by intro i x;cases i<;>first |rfl |exact Xq _,gE:=by intro i h;cases i<;>first |rfl |exact Xq _,flat:=by intro i;cases i<;>rfl,gv:=gvS,AF:=λ_=>rfl }
abbrev dc:Value:=.slice none 0 0
abbrev du:Value:=.int .i64 0
abbrev G2:Value:=.bool false
abbrev mf:Value:=.string ⟨#[]⟩
def tab:List (TypeId×py):=[
 (3,⟨1,8,false,[du],.int .i64,[]⟩),
 (4,⟨1,1,false,[G2],.bool,[]⟩),
 (9,⟨1,16,false,[mf],.str,[]⟩),
 (22,⟨1,24,false,[dc],.slice 137,[]⟩),
 (23,⟨1,24,false,[dc],.slice 78,[]⟩),
 (24,⟨1,24,false,[dc],.slice 209,[]⟩),
 (25,⟨1,24,false,[dc],.slice 116,[]⟩),
 (26,⟨1,24,false,[dc],.slice 205,[]⟩),
 (27,⟨1,24,false,[dc],.slice 414,[]⟩),
 (28,⟨1,24,false,[dc],.slice 412,[]⟩),
 (30,⟨8,176,true,[dc,dc,dc,dc,dc,dc,dc,du],.struct [(0,22),(1,23),(2,24),(3,25),(4,26),(5,27),(6,28),(7,3)],[]⟩),
 (31,⟨1,24,false,[dc],.slice 51,[]⟩),
 (32,⟨1,24,false,[dc],.slice 130,[]⟩),
 (33,⟨1,24,false,[dc],.slice 416,[]⟩),
 (34,⟨1,24,false,[dc],.slice 222,[]⟩),
 (35,⟨1,24,false,[dc],.slice 56,[]⟩),
 (37,⟨13,296,true,[dc,dc,dc,dc,dc,dc,dc,du,dc,dc,dc,dc,dc],.struct [(0,30),(8,31),(9,32),(10,33),(11,34),(12,35)],[]⟩),
 (38,⟨1,24,false,[dc],.slice 123,[]⟩),
 (40,⟨2,32,true,[du,dc],.struct [(0,3),(1,38)],[]⟩),
 (41,⟨1,24,false,[dc],.slice 3,[]⟩),
 (42,⟨1,24,false,[dc],.slice 229,[]⟩),
 (43,⟨1,24,false,[dc],.slice 65,[]⟩),
 (44,⟨1,24,false,[dc],.slice 58,[]⟩),
 (46,⟨22,448,true,[dc,dc,dc,dc,dc,dc,dc,du,dc,dc,dc,dc,dc,du,dc,du,du,du,dc,dc,dc,dc],.struct [(0,37),(13,40),(15,3),(16,3),(17,3),(18,41),(19,42),(20,43),(21,44)],[]⟩),
 (49,⟨1,24,false,[dc],.slice 87,[]⟩),
 (51,⟨4,64,true,[du,du,dc,dc],.struct [(0,3),(1,3),(2,49),(3,41)],[]⟩),
 (56,⟨2,24,true,[mf,du],.struct [(0,9),(1,3)],[2,0]⟩),
 (58,⟨6,72,true,[du,du,dc,du,mf,du],.struct [(0,3),(1,3),(2,41),(3,3),(4,9),(5,3)],[]⟩),
 (60,⟨1,24,false,[dc],.slice 9,[]⟩),
 (65,⟨3,40,true,[du,dc,G2],.struct [(0,3),(1,41),(2,4)],[]⟩),
 (73,⟨1,24,false,[dc],.slice 40,[]⟩),
 (75,⟨8,80,true,[du,du,du,du,du,dc,du,du],.struct [(0,3),(1,3),(2,3),(3,3),(4,3),(5,73),(6,3),(7,3)],[]⟩),
 (78,⟨3,48,true,[mf,dc,du],.struct [(0,9),(1,35),(2,3)],[]⟩),
 (80,⟨1,8,false,[.pointer none],.other,[]⟩),
 (81,⟨1,24,false,[dc],.slice 91,[]⟩),
 (83,⟨10,224,true,[dc,dc,dc,dc,dc,dc,dc,du,dc,dc],.struct [(0,30),(8,49),(9,81)],[]⟩),
 (87,⟨4,32,true,[du,du,du,du],.struct [(0,3),(1,3),(2,3),(3,3)],[0,0,0,0]⟩),
 (89,⟨6,48,true,[du,du,du,du,du,du],.struct [(0,87),(4,3),(5,3)],[]⟩),
 (91,⟨9,72,true,[du,du,du,du,du,du,du,du,G2],.struct [(0,89),(6,3),(7,3),(8,4)],[]⟩),
 (93,⟨1,8,false,[.nilFunc],.other,[]⟩),
 (95,⟨2,24,true,[mf,.nilFunc],.struct [(0,9),(1,93)],[]⟩),
 (96,⟨18,216,true,[mf,.nilFunc,mf,.nilFunc,mf,.nilFunc,mf,.nilFunc,mf,.nilFunc,mf,.nilFunc,mf,.nilFunc,mf,.nilFunc,mf,.nilFunc],.arr 9 95,[]⟩),
 (104,⟨21,440,true,[dc,dc,dc,dc,dc,dc,dc,du,dc,dc,dc,dc,dc,du,du,dc,dc,du,dc,dc,dc],.struct [(0,37),(13,51),(17,40),(19,81),(20,60)],[]⟩),
 (110,⟨1,24,false,[dc],.slice 112,[]⟩),
 (112,⟨5,72,true,[du,du,mf,mf,dc],.struct [(0,3),(1,3),(2,9),(3,9),(4,110)],[]⟩),
 (114,⟨4,32,true,[du,du,du,du],.struct [(0,3),(1,3),(2,3),(3,3)],[0,0,0,0]⟩),
 (116,⟨20,232,true,[mf,dc,dc,du,du,du,G2,du,du,du,mf,mf,dc,du,du,du,du,du,du,du],.struct [(0,9),(1,60),(2,60),(3,3),(4,3),(5,3),(6,4),(7,3),(8,112),(13,114),(17,3),(18,3),(19,3)],[]⟩),
 (120,⟨1,24,false,[dc],.slice 173,[]⟩),
 (123,⟨2,48,true,[dc,dc],.struct [(0,81),(1,35)],[]⟩),
 (130,⟨3,40,true,[du,dc,du],.struct [(0,3),(1,49),(2,3)],[]⟩),
 (131,⟨1,24,false,[dc],.slice 134,[]⟩),
 (134,⟨4,48,true,[du,du,du,dc],.struct [(0,3),(1,3),(2,3),(3,73)],[]⟩),
 (137,⟨6,88,true,[mf,du,du,mf,mf,dc],.struct [(0,9),(1,112)],[]⟩),
 (167,⟨1,24,false,[dc],.slice 114,[]⟩),
 (173,⟨3,40,true,[du,du,dc],.struct [(0,3),(1,3),(2,49)],[]⟩),
 (182,⟨1,24,false,[dc],.slice 4,[]⟩),
 (188,⟨1,24,false,[dc],.slice 247,[]⟩),
 (193,⟨1,8,false,[.int .u64 0],.int .u64,[]⟩),
 (203,⟨1,24,false,[dc],.slice 277,[]⟩),
 (205,⟨4,56,true,[mf,du,du,dc],.struct [(0,9),(1,3),(2,3),(3,203)],[]⟩),
 (209,⟨3,48,true,[mf,G2,dc],.struct [(0,9),(1,4),(2,203)],[]⟩),
 (213,⟨1,8,false,[.map none],.map 9 3,[]⟩),
 (215,⟨10,208,true,[dc,dc,dc,dc,dc,dc,dc,du,.map none,dc],.struct [(0,30),(8,213),(9,60)],[]⟩),
 (222,⟨10,80,true,[du,du,du,du,du,du,du,du,du,G2],.struct [(0,3),(1,91)],[]⟩),
 (229,⟨2,16,true,[du,du],.struct [(0,3),(1,3)],[0,0]⟩),
 (239,⟨1,24,false,[dc],.slice 41,[]⟩),
 (240,⟨1,24,false,[dc],.slice 41,[]⟩),
 (243,⟨1,24,false,[dc],.slice 245,[]⟩),
 (245,⟨2,16,true,[du,du],.struct [(0,3),(1,3)],[0,0]⟩),
 (247,⟨3,40,true,[du,du,dc],.struct [(0,3),(1,3),(2,243)],[]⟩),
 (248,⟨1,24,false,[dc],.slice 49,[]⟩),
 (270,⟨6,96,true,[mf,mf,mf,mf,mf,mf],.arr 6 9,[]⟩),
 (272,⟨1,8,false,[.map none],.map 9 4,[]⟩),
 (277,⟨2,16,true,[du,du],.struct [(0,3),(1,3)],[0,0]⟩),
 (318,⟨4,32,true,[du,du,du,du],.arr 4 3,[]⟩),
 (338,⟨1,24,false,[dc],.slice 341,[]⟩),
 (341,⟨4,32,true,[du,du,du,du],.struct [(0,277),(2,277)],[]⟩),
 (343,⟨2,48,true,[dc,dc],.struct [(0,22),(1,239)],[]⟩),
 (355,⟨1,24,false,[dc],.slice 243,[]⟩),
 (412,⟨3,24,true,[du,du,du],.struct [(0,3),(1,3),(2,3)],[0,0,0]⟩),
 (414,⟨6,72,true,[mf,du,du,du,du,dc],.struct [(0,9),(1,412),(4,3),(5,28)],[]⟩),
 (416,⟨4,32,true,[du,du,du,du],.struct [(0,3),(1,412)],[]⟩)]
def aqd:List (TypeId×CT SI):=[(3,(.int .i64)),(4,.bool),(9,.str),(40,(.st SI.iv)),(42,(.sl (.st SI.ra))),(49,(.sl (.st SI.m6))),(51,(.st SI.Lot)),(56,(.st SI.Entry)),(58,(.st SI.Claim)),(78,(.st SI.Table)),(87,(.st SI.m6)),(91,(.st SI.j7)),(114,(.st SI.hZ)),(123,(.st SI.Phase)),(173,(.st SI.lO)),(229,(.st SI.ra)),(243,(.sl (.st SI.span))),(245,(.st SI.span)),(247,(.st SI.strip)),(341,(.st SI.side))]
def aoV:TypeId->Option (CT xx.ι):=lk aqd
theorem aoW:eX Tryz.prog (iB tab):=adW (by kernel_rfl)
theorem mixed:Tryz.prog.follows .mixedOrders=true:=Checked.mixed Tryz.checked
theorem cq{f:FuncId}{fn:Func}{l:List (FuncId×cm xx)}(hΓ:tj Tryz.prog (yv l))(hfn:Tryz.prog.funcs[f]? =some fn){s:cm xx}(h:Hn SI)(n:Nat)
 (hq : (fn.body.isSome && !(fn.name == "runtime.NumGoroutine") && decide (s.args.length <= fn.ntmps /\ wH s.args <= 1000 /\ (s.res.filter RT.out).length = wH s.args)) = true := by kernel_rfl) (hg : s.gen = none := by rfl)
 (hr:∀a,run (yv l) (iB tab) aoV fn.ntmps n (fn.body.getD .skip) (sP xx s.res) h (Cd s.args a) (ap3 (iB tab) fn.results.toList s.res)=s.fn a:=by intro _;kernel_rfl):GW Tryz.prog f s:=by
 rw[aY,aY]at hq;obtain⟨⟨q1,q2⟩,q3⟩:=hq;have hb:fn.body=some (fn.body.getD .skip):=by
  cases hc:fn.body with
  |none=>rw[hc]at q1;cases q1
  |some c=>rfl
 have hn : (fn.name == "runtime.NumGoroutine") = false := by simpa using q2
 exact vx (pW hfn hb hn) (λ a _ e=>ap4 aoW mixed hΓ hfn hb hn _ _ (of_decide_eq_true q3) h n ((hr a).trans e)) hg
theorem pn{f:FuncId}{fn:Func}{l:List (FuncId×cm xx)}(hΓ:tj Tryz.prog (yv l))(hfn:Tryz.prog.funcs[f]? =some fn){g:dE xx}(h:Hn SI)(n:Nat)
 (hq : (fn.body.isSome && !(fn.name == "runtime.NumGoroutine") && decide (g.qq.length <= fn.ntmps) && g.Cl) = true)
 (hr:∀v,run (yv l) (iB tab) aoV fn.ntmps n (fn.body.getD .skip) (VT (X:=xx) (Ai g).vars) h (HE g v) (aoR (iB tab) fn.results.toList g)=g.fn v):GW Tryz.prog f ⟨[],[.d .bool],λ_=>none,some g⟩:=by
 rw[aY,aY,aY]at hq;obtain⟨⟨⟨q1,q2⟩,q3⟩,q4⟩:=hq;have hb:fn.body=some (fn.body.getD .skip):=by
  cases hc:fn.body with
  |none=>rw[hc]at q1;cases q1
  |some c=>rfl
 have hn : (fn.name == "runtime.NumGoroutine") = false := by simpa using q2
 exact apk (pW hfn hb hn) (apl aoW mixed hΓ hfn hb hn g (of_decide_eq_true q3) q4 h n (λ v _ e=>(hr v).trans e))
theorem gcn:tj Tryz.prog (yv ([]:List (FuncId×cm xx))):=ay
abbrev af:CT SI:=.int .i64
abbrev bg:CT SI:=.st SI.Def
abbrev gI:CT SI:=.st SI.Entry
abbrev aW:CT SI:=.st SI.Table
abbrev bB:CT SI:=.st SI.Zone
abbrev aT:CT SI:=.st SI.Rule
abbrev bF:CT SI:=.st SI.Cap
abbrev aV:CT SI:=.st SI.gj
abbrev bC:CT SI:=.st SI.View
abbrev aA:CT SI:=.st SI.m6
abbrev aD:CT SI:=.st SI.j7
abbrev fE:CT SI:=.st SI.ra
abbrev d9:CT SI:=.st SI.Claim
abbrev dJ:CT SI:=.st SI.fm
abbrev gF:CT SI:=.st SI.vn
abbrev dY:CT SI:=.st SI.iv
abbrev aC(f:Nat)(s:cm xx):Prop:=GW Tryz.prog f s
abbrev gQ:=(List gH)×(List bO)×(List fC)×(List bX)×(List jA)×(List ig)×(List dD)×Int×(List ax)×(List aF)
end Go.Proofs
