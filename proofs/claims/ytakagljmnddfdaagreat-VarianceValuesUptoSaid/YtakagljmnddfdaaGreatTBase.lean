import Derived.Test.YtakagljmnddfdaaGreatSeq
import Derived.Test.YtakagljmnddfdaaGreatChecked
namespace Go.Proofs
open Go.Gb Go.RowKit
structure nY where
 a0:Int
 a1:Int
 deriving DecidableEq,Inhabited
def acM(x:nY):U Tree:=[.sc (.int .i64 x.a0),.sc (.int .i64 x.a1)]
structure bL where
 values:Int
 pairs:(List nY)
 deriving DecidableEq,Inhabited
def Jr(x:bL):U Tree:=[.sc (.int .i64 x.values),.sl (x.pairs.map acM)]
structure dO where
 l:List Bool
 h:l.length=144
 deriving DecidableEq
def ad6(x:dO):U Tree:=x.l.map λy=> .sc (.bool y)
def dG(l:U Bool):J dO:=if h:l.length=144 then some ⟨l,h⟩else none
structure ax where
 x0:Int
 y0:Int
 x1:Int
 y1:Int
 deriving DecidableEq,Inhabited
def KP(x:ax):U Tree:=[.sc (.int .i64 x.x0),.sc (.int .i64 x.y0),.sc (.int .i64 x.x1),.sc (.int .i64 x.y1)]
structure gI where
 id:Int
 owner:Int
 area:(List ax)
 from_:(List Int)
 deriving DecidableEq,Inhabited
def MW(x:gI):U Tree:=[.sc (.int .i64 x.id),.sc (.int .i64 x.owner),.sl (x.area.map KP),.sl (x.from_.map (λ y=>[.sc (.int .i64 y)]))]
structure aN where
 from_:Int
 to:Int
 deriving DecidableEq,Inhabited
def akb(x:aN):U Tree:=[.sc (.int .i64 x.from_),.sc (.int .i64 x.to)]
structure bR where
 x0:Int
 x1:Int
 column:(List aN)
 deriving DecidableEq,Inhabited
def anv(x:bR):U Tree:=[.sc (.int .i64 x.x0),.sc (.int .i64 x.x1),.sl (x.column.map akb)]
structure aH where
 bx:Int
 ca:Int
 bu:Int
 b9:Int
 eh:Int
 d6:Int
 use:Int
 units:Int
 extra:Bool
 deriving DecidableEq,Inhabited
def KQ(x:aH):U Tree:=[.sc (.int .i64 x.bx),.sc (.int .i64 x.ca),.sc (.int .i64 x.bu),.sc (.int .i64 x.b9),.sc (.int .i64 x.eh),.sc (.int .i64 x.d6),.sc (.int .i64 x.use),.sc (.int .i64 x.units),.sc (.bool x.extra)]
structure bQ where
 name:ByteArray
 n:Int
 deriving DecidableEq,Inhabited
def zK(x:bQ):U Tree:=[.sc (.string x.name),.sc (.int .i64 x.n)]
structure qj where
 cj:(List aH)
 gives:(List bQ)
 deriving DecidableEq,Inhabited
def Js(x:qj):U Tree:=[.sl (x.cj.map KQ),.sl (x.gives.map zK)]
structure aQ where
 lot:Int
 phases:(List qj)
 deriving DecidableEq,Inhabited
def wD(x:aQ):U Tree:=[.sc (.int .i64 x.lot),.sl (x.phases.map Js)]
structure dW where
 op:Int
 n:Int
 s:ByteArray
 key:ByteArray
 args:(List dW)
mutual
def sO:dW->List Tree
 |⟨f0,f1,f2,f3,f4⟩=>[.sc (.int .i64 f0),.sc (.int .i64 f1),.sc (.string f2),.sc (.string f3),.sl (uN f4)]
def uN:List dW->List (List Tree)
 |[]=>[]
 |x::xs=>sO x::uN xs
end
theorem uO:∀l:U dW,uN l=l.map sO
 |[]=>rfl
 |x::xs=>by rw[uN,uO xs];rfl
theorem YH(x:dW):sO x=[.sc (.int .i64 x.op),.sc (.int .i64 x.n),.sc (.string x.s),.sc (.string x.key),.sl (x.args.map sO)]:=by cases x;simp only[sO,uO]
structure fG where
 name:ByteArray
 kh:Int
 pf:Int
 mj:ByteArray
 j0:ByteArray
 eQ:(List dW)
def Fy(x:fG):U Tree:=[.sc (.string x.name),.sc (.int .i64 x.kh),.sc (.int .i64 x.pf),.sc (.string x.mj),.sc (.string x.j0),.sl (x.eQ.map sO)]
structure bT where
 name:ByteArray
 rows:(List bQ)
 sk:Int
 deriving DecidableEq,Inhabited
def zL(x:bT):U Tree:=[.sc (.string x.name),.sl (x.rows.map zK),.sc (.int .i64 x.sk)]
structure dP where
 x:Int
 y:Int
 deriving DecidableEq,Inhabited
def YI(x:dP):U Tree:=[.sc (.int .i64 x.x),.sc (.int .i64 x.y)]
structure dV where
 name:ByteArray
 overlay:Bool
 corners:(List dP)
 deriving DecidableEq,Inhabited
def O4(x:dV):U Tree:=[.sc (.string x.name),.sc (.bool x.overlay),.sl (x.corners.map YI)]
structure bC where
 name:ByteArray
 zones:(List ByteArray)
 except:(List ByteArray)
 from_:Int
 jj:Int
 zr:Int
 vary:Bool
 kind:Int
 nj:Int
 qk:Int
 qe:ByteArray
 lz:ByteArray
 iv:(List dW)
 gC:Int
 gE:Int
 ix:Int
 iz:Int
 uses:Int
 other:Int
 n:Int
def yH(x:bC):U Tree:=[.sc (.string x.name),.sl (x.zones.map (λ y=>[.sc (.string y)])),.sl (x.except.map (λ y=>[.sc (.string y)])),.sc (.int .i64 x.from_),.sc (.int .i64 x.jj),.sc (.int .i64 x.zr),.sc (.bool x.vary),.sc (.int .i64 x.kind),.sc (.int .i64 x.nj),.sc (.int .i64 x.qk),.sc (.string x.qe),.sc (.string x.lz),.sl (x.iv.map sO),.sc (.int .i64 x.gC),.sc (.int .i64 x.gE),.sc (.int .i64 x.ix),.sc (.int .i64 x.iz),.sc (.int .i64 x.uses),.sc (.int .i64 x.other),.sc (.int .i64 x.n)]
structure gJ where
 name:ByteArray
 load:Int
 limit:Int
 corners:(List dP)
 deriving DecidableEq,Inhabited
def MX(x:gJ):U Tree:=[.sc (.string x.name),.sc (.int .i64 x.load),.sc (.int .i64 x.limit),.sl (x.corners.map YI)]
structure bS where
 x:Int
 y:Int
 z:Int
 deriving DecidableEq,Inhabited
def zh(x:bS):U Tree:=[.sc (.int .i64 x.x),.sc (.int .i64 x.y),.sc (.int .i64 x.z)]
structure fA where
 name:ByteArray
 z6:Int
 zE:Int
 zz:Int
 least:Int
 targets:(List bS)
 deriving DecidableEq,Inhabited
def O5(x:fA):U Tree:=[.sc (.string x.name),.sc (.int .i64 x.z6),.sc (.int .i64 x.zE),.sc (.int .i64 x.zz),.sc (.int .i64 x.least),.sl (x.targets.map zh)]
structure apW where
 cd:(List fG)
 bk:(List bT)
 b7:(List dV)
 aE:(List bC)
 cw:(List gJ)
 cp:(List fA)
 cJ:(List bS)
 ct:Int
 area:(List ax)
 cj:(List aH)
def ao2(x:apW):U Tree:=[.sl (x.cd.map Fy),.sl (x.bk.map zL),.sl (x.b7.map O4),.sl (x.aE.map yH),.sl (x.cw.map MX),.sl (x.cp.map O5),.sl (x.cJ.map zh),.sc (.int .i64 x.ct),.sl (x.area.map KP),.sl (x.cj.map KQ)]
structure KR where
 a0:ByteArray
 a1:ByteArray
 a2:ByteArray
 a3:ByteArray
 a4:ByteArray
 a5:ByteArray
 deriving DecidableEq,Inhabited
def alp(x:KR):U Tree:=[.sc (.string x.a0),.sc (.string x.a1),.sc (.string x.a2),.sc (.string x.a3),.sc (.string x.a4),.sc (.string x.a5)]
structure cK where
 defs:(List fG)
 tables:(List bT)
 zones:(List dV)
 rules:(List bC)
 caps:(List gJ)
 views:(List fA)
 uv:(List bS)
 hours:Int
def ao3(x:cK):U Tree:=[.sl (x.defs.map Fy),.sl (x.tables.map zL),.sl (x.zones.map O4),.sl (x.rules.map yH),.sl (x.caps.map MX),.sl (x.views.map O5),.sl (x.uv.map zh),.sc (.int .i64 x.hours)]
structure nK where
 lot:Int
 area:(List ax)
 top:Int
 deriving DecidableEq,Inhabited
def Jt(x:nK):U Tree:=[.sc (.int .i64 x.lot),.sl (x.area.map KP),.sc (.int .i64 x.top)]
structure Ws where
 lot:Int
 JT:Int
 Jn:Int
 I3:Int
 deriving DecidableEq,Inhabited
def Rx(x:Ws):U Tree:=[.sc (.int .i64 x.lot),.sc (.int .i64 x.JT),.sc (.int .i64 x.Jn),.sc (.int .i64 x.I3)]
structure jR where
 lot:Int
 eb:Int
 d8:Int
 ea:Int
 d7:Int
 k5:Int
 kO:Int
 eM:Int
 lv:Int
 lw:Bool
 deriving DecidableEq,Inhabited
def Ry(x:jR):U Tree:=[.sc (.int .i64 x.lot),.sc (.int .i64 x.eb),.sc (.int .i64 x.d8),.sc (.int .i64 x.ea),.sc (.int .i64 x.d7),.sc (.int .i64 x.k5),.sc (.int .i64 x.kO),.sc (.int .i64 x.eM),.sc (.int .i64 x.lv),.sc (.bool x.lw)]
structure dK where
 cd:(List fG)
 bk:(List bT)
 b7:(List dV)
 aE:(List bC)
 cw:(List gJ)
 cp:(List fA)
 cJ:(List bS)
 ct:Int
 land:(List gI)
 cg:(List nK)
 windows:(List Ws)
 built:(List jR)
 base:(List bQ)
def Bv(x:dK):U Tree:=[.sl (x.cd.map Fy),.sl (x.bk.map zL),.sl (x.b7.map O4),.sl (x.aE.map yH),.sl (x.cw.map MX),.sl (x.cp.map O5),.sl (x.cJ.map zh),.sc (.int .i64 x.ct),.sl (x.land.map MW),.sl (x.cg.map Jt),.sl (x.windows.map Rx),.sl (x.built.map Ry),.sl (x.base.map zK)]
structure zM where
 l:List Int
 h:l.length=12
 deriving DecidableEq
def aix(x:zM):U Tree:=x.l.map λy=> .sc (.int .i64 y)
def D9(l:U Int):J zM:=if h:l.length=12 then some ⟨l,h⟩else none
structure aV where
 id:Int
 values:(List Int)
 grant:Bool
 deriving DecidableEq,Inhabited
def ao4(x:aV):U Tree:=[.sc (.int .i64 x.id),.sl (x.values.map (λ y=>[.sc (.int .i64 y)])),.sc (.bool x.grant)]
structure Ju where
 id:Int
 holder:Int
 state:Int
 day:Int
 rule:Int
 gR:(List aQ)
 choice:Int
 into:Int
 deriving DecidableEq,Inhabited
def aiy(x:Ju):U Tree:=[.sc (.int .i64 x.id),.sc (.int .i64 x.holder),.sc (.int .i64 x.state),.sc (.int .i64 x.day),.sc (.int .i64 x.rule),.sl (x.gR.map wD),.sc (.int .i64 x.choice),.sc (.int .i64 x.into)]
structure N0 where
 kind:Int
 day:Int
 n:Int
 gR:(List aQ)
 deriving DecidableEq,Inhabited
def aqv(x:N0):U Tree:=[.sc (.int .i64 x.kind),.sc (.int .i64 x.day),.sc (.int .i64 x.n),.sl (x.gR.map wD)]
structure DM where
 oe:Int
 oa:Int
 oc:Int
 nF:Int
 z0:Int
 z1:Int
 deriving DecidableEq,Inhabited
def aqw(x:DM):U Tree:=[.sc (.int .i64 x.oe),.sc (.int .i64 x.oa),.sc (.int .i64 x.oc),.sc (.int .i64 x.nF),.sc (.int .i64 x.z0),.sc (.int .i64 x.z1)]
structure jN where
 lj:Int
 pp:Int
 lP:Int
 t8:Int
 deriving DecidableEq,Inhabited
def ao6(x:jN):U Tree:=[.sc (.int .i64 x.lj),.sc (.int .i64 x.pp),.sc (.int .i64 x.lP),.sc (.int .i64 x.t8)]
structure mU where
 eV:(List fG)
 en:(List bT)
 eE:(List dV)
 eJ:(List bC)
 eW:(List gJ)
 eI:(List fA)
 fS:(List bS)
 eK:Int
 pL:(List gI)
 jn:(List nK)
 ly:(List Ws)
 ft:(List jR)
 pN:(List bQ)
 s7:Int
 mf:Int
 ju:(List ax)
 oR:(List Int)
 dt:Int
 gS:(List qj)
 cj:(List aH)
 zones:(List ByteArray)
def anw(x:mU):U Tree:=[.sl (x.eV.map Fy),.sl (x.en.map zL),.sl (x.eE.map O4),.sl (x.eJ.map yH),.sl (x.eW.map MX),.sl (x.eI.map O5),.sl (x.fS.map zh),.sc (.int .i64 x.eK),.sl (x.pL.map MW),.sl (x.jn.map Jt),.sl (x.ly.map Rx),.sl (x.ft.map Ry),.sl (x.pN.map zK),.sc (.int .i64 x.s7),.sc (.int .i64 x.mf),.sl (x.ju.map KP),.sl (x.oR.map (λ y=>[.sc (.int .i64 y)])),.sc (.int .i64 x.dt),.sl (x.gS.map Js),.sl (x.cj.map KQ),.sl (x.zones.map (λ y=>[.sc (.string y)]))]
structure ql where
 defs:(List fG)
 uses:(List (List Int))
def anx(x:ql):U Tree:=[.sl (x.defs.map Fy),.sl (x.uses.map (λ y=>[.sl (y.map (λ y=>[.sc (.int .i64 y)]))]))]
structure fK where
 z0:Int
 z1:Int
 area:(List ax)
 deriving DecidableEq,Inhabited
def ao7(x:fK):U Tree:=[.sc (.int .i64 x.z0),.sc (.int .i64 x.z1),.sl (x.area.map KP)]
structure d9 where
 side:Int
 base:Int
 num:Int
 den:Int
 deriving DecidableEq,Inhabited
def anz(x:d9):U Tree:=[.sc (.int .i64 x.side),.sc (.int .i64 x.base),.sc (.int .i64 x.num),.sc (.int .i64 x.den)]
structure O6 where
 a0:Int
 a1:Int
 a2:Int
 a3:Int
 deriving DecidableEq,Inhabited
def alq(x:O6):U Tree:=[.sc (.int .i64 x.a0),.sc (.int .i64 x.a1),.sc (.int .i64 x.a2),.sc (.int .i64 x.a3)]
structure Rz where
 l:List Bool
 h:l.length=12
 deriving DecidableEq
def af4(x:Rz):U Tree:=x.l.map λy=> .sc (.bool y)
def MZ(l:U Bool):J Rz:=if h:l.length=12 then some ⟨l,h⟩else none
inductive SI where
 |ll
 |Order
 |cW
 |l4
 |Lot
 |span
 |strip
 |ir
 |Entry
 |Phase
 |eo
 |Expr
 |Def
 |Table
 |ij
 |Zone
 |Rule
 |Cap
 |gh
 |View
 |site
 |mw
 |j8
 |ff
 |Window
 |gi
 |iS
 |gz
 |Case
 |kq
 |Act
 |E4
 |side
 |js
 |graph
 |kA
 |fY
 |my
 |gc
 deriving DecidableEq
@[reducible] def TT:SI->Type
 | .ll=>nY
 | .Order=>bL
 | .cW=>dO
 | .l4=>ax
 | .Lot=>gI
 | .span=>aN
 | .strip=>bR
 | .ir=>aH
 | .Entry=>bQ
 | .Phase=>qj
 | .eo=>aQ
 | .Expr=>dW
 | .Def=>fG
 | .Table=>bT
 | .ij=>dP
 | .Zone=>dV
 | .Rule=>bC
 | .Cap=>gJ
 | .gh=>bS
 | .View=>fA
 | .site=>apW
 | .mw=>KR
 | .j8=>cK
 | .ff=>nK
 | .Window=>Ws
 | .gi=>jR
 | .iS=>dK
 | .gz=>zM
 | .Case=>aV
 | .kq=>Ju
 | .Act=>N0
 | .E4=>DM
 | .side=>jN
 | .js=>mU
 | .graph=>ql
 | .kA=>fK
 | .fY=>d9
 | .my=>O6
 | .gc=>Rz
def ard:(i:SI)->TT i->U Tree
 | .ll,x=>acM x
 | .Order,x=>Jr x
 | .cW,x=>ad6 x
 | .l4,x=>KP x
 | .Lot,x=>MW x
 | .span,x=>akb x
 | .strip,x=>anv x
 | .ir,x=>KQ x
 | .Entry,x=>zK x
 | .Phase,x=>Js x
 | .eo,x=>wD x
 | .Expr,x=>sO x
 | .Def,x=>Fy x
 | .Table,x=>zL x
 | .ij,x=>YI x
 | .Zone,x=>O4 x
 | .Rule,x=>yH x
 | .Cap,x=>MX x
 | .gh,x=>zh x
 | .View,x=>O5 x
 | .site,x=>ao2 x
 | .mw,x=>alp x
 | .j8,x=>ao3 x
 | .ff,x=>Jt x
 | .Window,x=>Rx x
 | .gi,x=>Ry x
 | .iS,x=>Bv x
 | .gz,x=>aix x
 | .Case,x=>ao4 x
 | .kq,x=>aiy x
 | .Act,x=>aqv x
 | .E4,x=>aqw x
 | .side,x=>ao6 x
 | .js,x=>anw x
 | .graph,x=>anx x
 | .kA,x=>ao7 x
 | .fY,x=>anz x
 | .my,x=>alq x
 | .gc,x=>af4 x
def se:SE:=⟨SI,inferInstance,TT,ard⟩
def Wg:SI->U (CT SI)
 | .ll=>[(.int .i64),(.int .i64)]
 | .Order=>[(.int .i64),(.sl (.st SI.ll))]
 | .cW=>List.replicate 144 .bool
 | .l4=>[(.int .i64),(.int .i64),(.int .i64),(.int .i64)]
 | .Lot=>[(.int .i64),(.int .i64),(.sl (.st SI.l4)),(.sl (.int .i64))]
 | .span=>[(.int .i64),(.int .i64)]
 | .strip=>[(.int .i64),(.int .i64),(.sl (.st SI.span))]
 | .ir=>[(.int .i64),(.int .i64),(.int .i64),(.int .i64),(.int .i64),(.int .i64),(.int .i64),(.int .i64),.bool]
 | .Entry=>[.str,(.int .i64)]
 | .Phase=>[(.sl (.st SI.ir)),(.sl (.st SI.Entry))]
 | .eo=>[(.int .i64),(.sl (.st SI.Phase))]
 | .Expr=>[(.int .i64),(.int .i64),.str,.str,(.sl (.st SI.Expr))]
 | .Def=>[.str,(.int .i64),(.int .i64),.str,.str,(.sl (.st SI.Expr))]
 | .Table=>[.str,(.sl (.st SI.Entry)),(.int .i64)]
 | .ij=>[(.int .i64),(.int .i64)]
 | .Zone=>[.str,.bool,(.sl (.st SI.ij))]
 | .Rule=>[.str,(.sl .str),(.sl .str),(.int .i64),(.int .i64),(.int .i64),.bool,(.int .i64),(.int .i64),(.int .i64),.str,.str,(.sl (.st SI.Expr)),(.int .i64),(.int .i64),(.int .i64),(.int .i64),(.int .i64),(.int .i64),(.int .i64)]
 | .Cap=>[.str,(.int .i64),(.int .i64),(.sl (.st SI.ij))]
 | .gh=>[(.int .i64),(.int .i64),(.int .i64)]
 | .View=>[.str,(.int .i64),(.int .i64),(.int .i64),(.int .i64),(.sl (.st SI.gh))]
 | .site=>[(.sl (.st SI.Def)),(.sl (.st SI.Table)),(.sl (.st SI.Zone)),(.sl (.st SI.Rule)),(.sl (.st SI.Cap)),(.sl (.st SI.View)),(.sl (.st SI.gh)),(.int .i64),(.sl (.st SI.l4)),(.sl (.st SI.ir))]
 | .mw=>[.str,.str,.str,.str,.str,.str]
 | .j8=>[(.sl (.st SI.Def)),(.sl (.st SI.Table)),(.sl (.st SI.Zone)),(.sl (.st SI.Rule)),(.sl (.st SI.Cap)),(.sl (.st SI.View)),(.sl (.st SI.gh)),(.int .i64)]
 | .ff=>[(.int .i64),(.sl (.st SI.l4)),(.int .i64)]
 | .Window=>[(.int .i64),(.int .i64),(.int .i64),(.int .i64)]
 | .gi=>[(.int .i64),(.int .i64),(.int .i64),(.int .i64),(.int .i64),(.int .i64),(.int .i64),(.int .i64),(.int .i64),.bool]
 | .iS=>[(.sl (.st SI.Def)),(.sl (.st SI.Table)),(.sl (.st SI.Zone)),(.sl (.st SI.Rule)),(.sl (.st SI.Cap)),(.sl (.st SI.View)),(.sl (.st SI.gh)),(.int .i64),(.sl (.st SI.Lot)),(.sl (.st SI.ff)),(.sl (.st SI.Window)),(.sl (.st SI.gi)),(.sl (.st SI.Entry))]
 | .gz=>List.replicate 12 (.int .i64)
 | .Case=>[(.int .i64),(.sl (.int .i64)),.bool]
 | .kq=>[(.int .i64),(.int .i64),(.int .i64),(.int .i64),(.int .i64),(.sl (.st SI.eo)),(.int .i64),(.int .i64)]
 | .Act=>[(.int .i64),(.int .i64),(.int .i64),(.sl (.st SI.eo))]
 | .E4=>[(.int .i64),(.int .i64),(.int .i64),(.int .i64),(.int .i64),(.int .i64)]
 | .side=>[(.int .i64),(.int .i64),(.int .i64),(.int .i64)]
 | .js=>[(.sl (.st SI.Def)),(.sl (.st SI.Table)),(.sl (.st SI.Zone)),(.sl (.st SI.Rule)),(.sl (.st SI.Cap)),(.sl (.st SI.View)),(.sl (.st SI.gh)),(.int .i64),(.sl (.st SI.Lot)),(.sl (.st SI.ff)),(.sl (.st SI.Window)),(.sl (.st SI.gi)),(.sl (.st SI.Entry)),(.int .i64),(.int .i64),(.sl (.st SI.l4)),(.sl (.int .i64)),(.int .i64),(.sl (.st SI.Phase)),(.sl (.st SI.ir)),(.sl .str)]
 | .graph=>[(.sl (.st SI.Def)),(.sl (.sl (.int .i64)))]
 | .kA=>[(.int .i64),(.int .i64),(.sl (.st SI.l4))]
 | .fY=>[(.int .i64),(.int .i64),(.int .i64),(.int .i64)]
 | .my=>[(.int .i64),(.int .i64),(.int .i64),(.int .i64)]
 | .gc=>List.replicate 12 .bool
def arA:(i:SI)->TT i->HL se (Wg i)
 | .ll,x=>(x.a0,x.a1,())
 | .Order,x=>(x.values,x.pairs,())
 | .cW,x=>Hb se .bool 144 x.l x.h
 | .l4,x=>(x.x0,x.y0,x.x1,x.y1,())
 | .Lot,x=>(x.id,x.owner,x.area,x.from_,())
 | .span,x=>(x.from_,x.to,())
 | .strip,x=>(x.x0,x.x1,x.column,())
 | .ir,x=>(x.bx,x.ca,x.bu,x.b9,x.eh,x.d6,x.use,x.units,x.extra,())
 | .Entry,x=>(x.name,x.n,())
 | .Phase,x=>(x.cj,x.gives,())
 | .eo,x=>(x.lot,x.phases,())
 | .Expr,x=>(x.op,x.n,x.s,x.key,x.args,())
 | .Def,x=>(x.name,x.kh,x.pf,x.mj,x.j0,x.eQ,())
 | .Table,x=>(x.name,x.rows,x.sk,())
 | .ij,x=>(x.x,x.y,())
 | .Zone,x=>(x.name,x.overlay,x.corners,())
 | .Rule,x=>(x.name,x.zones,x.except,x.from_,x.jj,x.zr,x.vary,x.kind,x.nj,x.qk,x.qe,x.lz,x.iv,x.gC,x.gE,x.ix,x.iz,x.uses,x.other,x.n,())
 | .Cap,x=>(x.name,x.load,x.limit,x.corners,())
 | .gh,x=>(x.x,x.y,x.z,())
 | .View,x=>(x.name,x.z6,x.zE,x.zz,x.least,x.targets,())
 | .site,x=>(x.cd,x.bk,x.b7,x.aE,x.cw,x.cp,x.cJ,x.ct,x.area,x.cj,())
 | .mw,x=>(x.a0,x.a1,x.a2,x.a3,x.a4,x.a5,())
 | .j8,x=>(x.defs,x.tables,x.zones,x.rules,x.caps,x.views,x.uv,x.hours,())
 | .ff,x=>(x.lot,x.area,x.top,())
 | .Window,x=>(x.lot,x.JT,x.Jn,x.I3,())
 | .gi,x=>(x.lot,x.eb,x.d8,x.ea,x.d7,x.k5,x.kO,x.eM,x.lv,x.lw,())
 | .iS,x=>(x.cd,x.bk,x.b7,x.aE,x.cw,x.cp,x.cJ,x.ct,x.land,x.cg,x.windows,x.built,x.base,())
 | .gz,x=>Hb se (.int .i64) 12 x.l x.h
 | .Case,x=>(x.id,x.values,x.grant,())
 | .kq,x=>(x.id,x.holder,x.state,x.day,x.rule,x.gR,x.choice,x.into,())
 | .Act,x=>(x.kind,x.day,x.n,x.gR,())
 | .E4,x=>(x.oe,x.oa,x.oc,x.nF,x.z0,x.z1,())
 | .side,x=>(x.lj,x.pp,x.lP,x.t8,())
 | .js,x=>(x.eV,x.en,x.eE,x.eJ,x.eW,x.eI,x.fS,x.eK,x.pL,x.jn,x.ly,x.ft,x.pN,x.s7,x.mf,x.ju,x.oR,x.dt,x.gS,x.cj,x.zones,())
 | .graph,x=>(x.defs,x.uses,())
 | .kA,x=>(x.z0,x.z1,x.area,())
 | .fY,x=>(x.side,x.base,x.num,x.den,())
 | .my,x=>(x.a0,x.a1,x.a2,x.a3,())
 | .gc,x=>Hb se .bool 12 x.l x.h
def arf:(i:SI)->HL se (Wg i)->TT i
 | .ll,h=>⟨h.1,h.2.1⟩
 | .Order,h=>⟨h.1,h.2.1⟩
 | .cW,h=>⟨Ek se .bool 144 h,Wi se _ _ h⟩
 | .l4,(qa,qb,qc,qd,_)=>⟨qa,qb,qc,qd⟩
 | .Lot,(qa,qb,qc,qd,_)=>⟨qa,qb,qc,qd⟩
 | .span,h=>⟨h.1,h.2.1⟩
 | .strip,h=>⟨h.1,h.2.1,h.2.2.1⟩
 | .ir,(qa,qb,qc,qd,qe,qf,qg,qh,qi,_)=>⟨qa,qb,qc,qd,qe,qf,qg,qh,qi⟩
 | .Entry,h=>⟨h.1,h.2.1⟩
 | .Phase,h=>⟨h.1,h.2.1⟩
 | .eo,h=>⟨h.1,h.2.1⟩
 | .Expr,(qa,qb,qc,qd,qe,_)=>⟨qa,qb,qc,qd,qe⟩
 | .Def,(qa,qb,qc,qd,qe,qf,_)=>⟨qa,qb,qc,qd,qe,qf⟩
 | .Table,h=>⟨h.1,h.2.1,h.2.2.1⟩
 | .ij,h=>⟨h.1,h.2.1⟩
 | .Zone,h=>⟨h.1,h.2.1,h.2.2.1⟩
 | .Rule,(qa,qb,qc,qd,qe,qf,qg,qh,qi,qj,qk,ql,qm,qn,qo,qp,qq,qr,qs,qt,_)=>⟨qa,qb,qc,qd,qe,qf,qg,qh,qi,qj,qk,ql,qm,qn,qo,qp,qq,qr,qs,qt⟩
 | .Cap,(qa,qb,qc,qd,_)=>⟨qa,qb,qc,qd⟩
 | .gh,h=>⟨h.1,h.2.1,h.2.2.1⟩
 | .View,(qa,qb,qc,qd,qe,qf,_)=>⟨qa,qb,qc,qd,qe,qf⟩
 | .site,(qa,qb,qc,qd,qe,qf,qg,qh,qi,qj,_)=>⟨qa,qb,qc,qd,qe,qf,qg,qh,qi,qj⟩
 | .mw,(qa,qb,qc,qd,qe,qf,_)=>⟨qa,qb,qc,qd,qe,qf⟩
 | .j8,(qa,qb,qc,qd,qe,qf,qg,qh,_)=>⟨qa,qb,qc,qd,qe,qf,qg,qh⟩
 | .ff,h=>⟨h.1,h.2.1,h.2.2.1⟩
 | .Window,(qa,qb,qc,qd,_)=>⟨qa,qb,qc,qd⟩
 | .gi,(qa,qb,qc,qd,qe,qf,qg,qh,qi,qj,_)=>⟨qa,qb,qc,qd,qe,qf,qg,qh,qi,qj⟩
 | .iS,(qa,qb,qc,qd,qe,qf,qg,qh,qi,qj,qk,ql,qm,_)=>⟨qa,qb,qc,qd,qe,qf,qg,qh,qi,qj,qk,ql,qm⟩
 | .gz,h=>⟨Ek se (.int .i64) 12 h,Wi se _ _ h⟩
 | .Case,h=>⟨h.1,h.2.1,h.2.2.1⟩
 | .kq,(qa,qb,qc,qd,qe,qf,qg,qh,_)=>⟨qa,qb,qc,qd,qe,qf,qg,qh⟩
 | .Act,(qa,qb,qc,qd,_)=>⟨qa,qb,qc,qd⟩
 | .E4,(qa,qb,qc,qd,qe,qf,_)=>⟨qa,qb,qc,qd,qe,qf⟩
 | .side,(qa,qb,qc,qd,_)=>⟨qa,qb,qc,qd⟩
 | .js,(qa,qb,qc,qd,qe,qf,qg,qh,qi,qj,qk,ql,qm,qn,qo,qp,qq,qr,qs,qt,qu,_)=>⟨qa,qb,qc,qd,qe,qf,qg,qh,qi,qj,qk,ql,qm,qn,qo,qp,qq,qr,qs,qt,qu⟩
 | .graph,h=>⟨h.1,h.2.1⟩
 | .kA,h=>⟨h.1,h.2.1,h.2.2.1⟩
 | .fY,(qa,qb,qc,qd,_)=>⟨qa,qb,qc,qd⟩
 | .my,(qa,qb,qc,qd,_)=>⟨qa,qb,qc,qd⟩
 | .gc,h=>⟨Ek se .bool 12 h,Wi se _ _ h⟩
def We:TypeId->J (L5 se)
 | 89=>some ⟨SI.gc,.bool,λx=>x.l,MZ⟩
 | 90=>some ⟨SI.cW,.bool,λx=>x.l,dG⟩
 | 91=>some ⟨SI.cW,.bool,λx=>x.l,dG⟩
 | 326=>some ⟨SI.gz,(.int .i64),λx=>x.l,D9⟩
 |_=>none
theorem aqy:∀t a,We t=some a->a.c.one=true/\(∀ x,ard a.i x=((a.f x).map (CT.row se a.c)).flatten)/\∀l x,a.g l=some x->a.f x=l:=by
 intro t a h;unfold We at h;split at h
 .cases h;refine⟨rfl,λx=>IZ se .bool (λ y=> .sc (.bool y)) (λ _=>rfl) x.l,λl x hl=>?_⟩
  replace hl:MZ l=some x:=hl
  unfold MZ at hl;split at hl
  .cases hl;rfl
  .cases hl
 .cases h;refine⟨rfl,λx=>IZ se .bool (λ y=> .sc (.bool y)) (λ _=>rfl) x.l,λl x hl=>?_⟩
  replace hl:dG l=some x:=hl
  unfold dG at hl;split at hl
  .cases hl;rfl
  .cases hl
 .cases h;refine⟨rfl,λx=>IZ se .bool (λ y=> .sc (.bool y)) (λ _=>rfl) x.l,λl x hl=>?_⟩
  replace hl:dG l=some x:=hl
  unfold dG at hl;split at hl
  .cases hl;rfl
  .cases hl
 .cases h;refine⟨rfl,λx=>IZ se (.int .i64) (λ y=> .sc (.int .i64 y)) (λ _=>rfl) x.l,λl x hl=>?_⟩
  replace hl:D9 l=some x:=hl
  unfold D9 at hl;split at hl
  .cases hl;rfl
  .cases hl
 .cases h
def gvS:Nat->J ((c:CT SI)×CT.T se c):=λ_=>none
def xx:SX:={ toSE:=se,cX:=Wg,get:=arA,make:=arf,np:=by intro i x;cases i;(case cW=>exact Wj se .bool (λ y=> .sc (.bool y)) (λ _=>rfl) _ _ _);(case gz=>exact Wj se (.int .i64) (λ y=> .sc (.int .i64 y)) (λ _=>rfl) _ _ _);(case gc=>exact Wj se .bool (λ y=> .sc (.bool y)) (λ _=>rfl) _ _ _);all_goals first |rfl |exact YH _,fX:=by intro i h;cases i;(case cW=>exact Oq se .bool (λ y=> .sc (.bool y)) (λ _=>rfl) _ _);(case gz=>exact Oq se (.int .i64) (λ y=> .sc (.int .i64 y)) (λ _=>rfl) _ _);(case gc=>exact Oq se .bool (λ y=> .sc (.bool y)) (λ _=>rfl) _ _);all_goals first |rfl |exact YH _,flat:=by intro i;cases i<;>rfl,gv:=gvS,zp:=λ_=>rfl,ar:=We,lR:=aqy }
abbrev cT:Value:=.slice none 0 0
abbrev cP:Value:=.int .i64 0
abbrev yW:Value:=.bool false
abbrev lp:Value:=.string ⟨#[]⟩
def tab:U (TypeId×m4):=[
 (3,⟨1,8,false,[cP],.int .i64,[]⟩),
 (4,⟨1,1,false,[yW],.bool,[]⟩),
 (9,⟨1,16,false,[lp],.str,[]⟩),
 (22,⟨1,24,false,[cT],.slice 247,[]⟩),
 (23,⟨1,24,false,[cT],.slice 301,[]⟩),
 (24,⟨1,24,false,[cT],.slice 194,[]⟩),
 (25,⟨1,24,false,[cT],.slice 64,[]⟩),
 (26,⟨1,24,false,[cT],.slice 190,[]⟩),
 (27,⟨1,24,false,[cT],.slice 411,[]⟩),
 (28,⟨1,24,false,[cT],.slice 409,[]⟩),
 (30,⟨8,176,true,[cT,cT,cT,cT,cT,cT,cT,cP],.struct [(0,22),(1,23),(2,24),(3,25),(4,26),(5,27),(6,28),(7,3)],[]⟩),
 (31,⟨1,24,false,[cT],.slice 79,[]⟩),
 (32,⟨1,24,false,[cT],.slice 116,[]⟩),
 (33,⟨1,24,false,[cT],.slice 413,[]⟩),
 (34,⟨1,24,false,[cT],.slice 214,[]⟩),
 (35,⟨1,24,false,[cT],.slice 171,[]⟩),
 (37,⟨13,296,true,[cT,cT,cT,cT,cT,cT,cT,cP,cT,cT,cT,cT,cT],.struct [(0,30),(8,31),(9,32),(10,33),(11,34),(12,35)],[]⟩),
 (38,⟨1,24,false,[cT],.slice 76,[]⟩),
 (40,⟨2,32,true,[cP,cT],.struct [(0,3),(1,38)],[]⟩),
 (41,⟨1,24,false,[cT],.slice 9,[]⟩),
 (42,⟨1,24,false,[cT],.slice 55,[]⟩),
 (46,⟨1,24,false,[cT],.slice 3,[]⟩),
 (49,⟨1,24,false,[cT],.slice 87,[]⟩),
 (53,⟨1,24,false,[cT],.slice 114,[]⟩),
 (55,⟨2,32,true,[cP,cT],.struct [(0,3),(1,53)],[]⟩),
 (58,⟨1,24,false,[cT],.slice 60,[]⟩),
 (60,⟨5,72,true,[cP,cP,lp,lp,cT],.struct [(0,3),(1,3),(2,9),(3,9),(4,58)],[]⟩),
 (62,⟨4,32,true,[cP,cP,cP,cP],.struct [(0,3),(1,3),(2,3),(3,3)],[0,0,0,0]⟩),
 (64,⟨20,232,true,[lp,cT,cT,cP,cP,cP,yW,cP,cP,cP,lp,lp,cT,cP,cP,cP,cP,cP,cP,cP],.struct [(0,9),(1,41),(2,41),(3,3),(4,3),(5,3),(6,4),(7,3),(8,60),(13,62),(17,3),(18,3),(19,3)],[]⟩),
 (69,⟨4,32,true,[cP,cP,cP,cP],.struct [(0,3),(1,3),(2,3),(3,3)],[0,0,0,0]⟩),
 (71,⟨6,48,true,[cP,cP,cP,cP,cP,cP],.struct [(0,69),(4,3),(5,3)],[]⟩),
 (73,⟨9,72,true,[cP,cP,cP,cP,cP,cP,cP,cP,yW],.struct [(0,71),(6,3),(7,3),(8,4)],[]⟩),
 (74,⟨1,24,false,[cT],.slice 73,[]⟩),
 (76,⟨2,48,true,[cT,cT],.struct [(0,74),(1,35)],[]⟩),
 (77,⟨1,24,false,[cT],.slice 69,[]⟩),
 (79,⟨4,64,true,[cP,cP,cT,cT],.struct [(0,3),(1,3),(2,77),(3,46)],[]⟩),
 (83,⟨1,24,false,[cT],.slice 40,[]⟩),
 (85,⟨8,80,true,[cP,cP,cP,cP,cP,cT,cP,cP],.struct [(0,3),(1,3),(2,3),(3,3),(4,3),(5,83),(6,3),(7,3)],[]⟩),
 (87,⟨3,40,true,[cP,cT,yW],.struct [(0,3),(1,46),(2,4)],[]⟩),
 (89,⟨12,12,true,(.replicate 12 (yW)),.arr 12 4,[9]⟩),
 (91,⟨144,144,true,(.replicate 144 (yW)),.arr 12 89,[9]⟩),
 (101,⟨21,440,true,[cT,cT,cT,cT,cT,cT,cT,cP,cT,cT,cT,cT,cT,cP,cP,cT,cT,cP,cT,cT,cT],.struct [(0,37),(13,79),(17,40),(19,74),(20,41)],[]⟩),
 (107,⟨1,8,false,[.nilFunc],.other,[]⟩),
 (110,⟨1,24,false,[cT],.slice 163,[]⟩),
 (114,⟨2,16,true,[cP,cP],.arr 2 3,[]⟩),
 (116,⟨3,40,true,[cP,cT,cP],.struct [(0,3),(1,77),(2,3)],[]⟩),
 (117,⟨1,24,false,[cT],.slice 120,[]⟩),
 (120,⟨4,48,true,[cP,cP,cP,cT],.struct [(0,3),(1,3),(2,3),(3,83)],[]⟩),
 (128,⟨1,8,false,[.nilFunc],.other,[]⟩),
 (131,⟨4,32,true,[.nilFunc,.nilFunc,.nilFunc,.nilFunc],.arr 4 128,[]⟩),
 (136,⟨1,24,false,[cT],.slice 178,[]⟩),
 (156,⟨1,24,false,[cT],.slice 62,[]⟩),
 (163,⟨3,40,true,[cP,cP,cT],.struct [(0,3),(1,3),(2,77)],[]⟩),
 (171,⟨2,24,true,[lp,cP],.struct [(0,9),(1,3)],[2,0]⟩),
 (172,⟨1,24,false,[cT],.slice 77,[]⟩),
 (177,⟨1,8,false,[.map none],.map 3 4,[]⟩),
 (178,⟨1,24,false,[cT],.slice 230,[]⟩),
 (179,⟨1,8,false,[.map none],.map 4 4,[]⟩),
 (188,⟨1,24,false,[cT],.slice 238,[]⟩),
 (190,⟨4,56,true,[lp,cP,cP,cT],.struct [(0,9),(1,3),(2,3),(3,188)],[]⟩),
 (194,⟨3,48,true,[lp,yW,cT],.struct [(0,9),(1,4),(2,188)],[]⟩),
 (197,⟨1,8,false,[.map none],.map 9 3,[]⟩),
 (199,⟨10,208,true,[cT,cT,cT,cT,cT,cT,cT,cP,.map none,cT],.struct [(0,30),(8,197),(9,41)],[]⟩),
 (203,⟨1,8,false,[.pointer none],.other,[]⟩),
 (205,⟨10,224,true,[cT,cT,cT,cT,cT,cT,cT,cP,cT,cT],.struct [(0,30),(8,77),(9,74)],[]⟩),
 (207,⟨1,8,false,[.nilFunc],.other,[]⟩),
 (208,⟨2,24,true,[lp,.nilFunc],.struct [(0,9),(1,207)],[]⟩),
 (209,⟨18,216,true,[lp,.nilFunc,lp,.nilFunc,lp,.nilFunc,lp,.nilFunc,lp,.nilFunc,lp,.nilFunc,lp,.nilFunc,lp,.nilFunc,lp,.nilFunc],.arr 9 208,[]⟩),
 (214,⟨10,80,true,[cP,cP,cP,cP,cP,cP,cP,cP,cP,yW],.struct [(0,3),(1,73)],[]⟩),
 (226,⟨1,8,false,[.int .u64 0],.int .u64,[]⟩),
 (230,⟨1,24,false,[cT],.slice 4,[]⟩),
 (232,⟨1,8,false,[.map none],.map 9 4,[]⟩),
 (238,⟨2,16,true,[cP,cP],.struct [(0,3),(1,3)],[0,0]⟩),
 (247,⟨6,88,true,[lp,cP,cP,lp,lp,cT],.struct [(0,9),(1,60)],[]⟩),
 (263,⟨1,24,false,[cT],.slice 289,[]⟩),
 (287,⟨1,24,false,[cT],.slice 315,[]⟩),
 (289,⟨3,40,true,[cP,cP,cT],.struct [(0,3),(1,3),(2,287)],[]⟩),
 (301,⟨3,48,true,[lp,cT,cP],.struct [(0,9),(1,35),(2,3)],[]⟩),
 (311,⟨4,32,true,[cP,cP,cP,cP],.arr 4 3,[]⟩),
 (315,⟨2,16,true,[cP,cP],.struct [(0,3),(1,3)],[0,0]⟩),
 (326,⟨12,96,true,[cP,cP,cP,cP,cP,cP,cP,cP,cP,cP,cP,cP],.arr 12 3,[]⟩),
 (336,⟨1,24,false,[cT],.slice 339,[]⟩),
 (339,⟨4,32,true,[cP,cP,cP,cP],.struct [(0,238),(2,238)],[]⟩),
 (340,⟨1,24,false,[cT],.slice 46,[]⟩),
 (342,⟨2,48,true,[cT,cT],.struct [(0,22),(1,340)],[]⟩),
 (352,⟨6,96,true,[lp,lp,lp,lp,lp,lp],.arr 6 9,[]⟩),
 (359,⟨1,24,false,[cT],.slice 287,[]⟩),
 (409,⟨3,24,true,[cP,cP,cP],.struct [(0,3),(1,3),(2,3)],[0,0,0]⟩),
 (411,⟨6,72,true,[lp,cP,cP,cP,cP,cT],.struct [(0,9),(1,409),(4,3),(5,28)],[]⟩),
 (413,⟨4,32,true,[cP,cP,cP,cP],.struct [(0,3),(1,409)],[]⟩)]
def arh:U (TypeId×CT SI):=[(3,(.int .i64)),(4,.bool),(9,.str),(40,(.st SI.eo)),(46,(.sl (.int .i64))),(55,(.st SI.Order)),(62,(.st SI.fY)),(64,(.st SI.Rule)),(69,(.st SI.l4)),(73,(.st SI.ir)),(76,(.st SI.Phase)),(77,(.sl (.st SI.l4))),(79,(.st SI.Lot)),(87,(.st SI.Case)),(114,(.st SI.ll)),(163,(.st SI.kA)),(171,(.st SI.Entry)),(178,(.sl (.sl .bool))),(230,(.sl .bool)),(287,(.sl (.st SI.span))),(289,(.st SI.strip)),(315,(.st SI.span)),(339,(.st SI.side))]
def apX:TypeId->J (CT xx.ι):=lk arh
theorem apY:eZ Tryz.prog (XB tab):=amA (by kernel_rfl)
theorem mixed:Tryz.prog.follows .mixedOrders=true:=Checked.mixed Tryz.checked
theorem cq{f:FuncId}{fn:Func}{l:U (FuncId×bz xx)}(hΓ:sA Tryz.prog (xz l))(hfn:Tryz.prog.funcs[f]? =some fn){s:bz xx}(h:Hn SI)(n:Nat)
 (hq : (fn.body.isSome && !(fn.name == "runtime.NumGoroutine") && decide (s.args.length <= fn.ntmps /\ ru s.args <= 1000 /\ (s.res.filter RT.out).length = ru s.args)) = true := by kernel_rfl) (hg : s.gen = none := by rfl)
 (hr:∀a,run (xz l) (XB tab) apX fn.ntmps n (fn.body.getD .skip) (uF xx s.res) h (xp s.args a) (aq3 (XB tab) fn.results.toList s.res)=s.fn a:=by intro _;kernel_rfl):wA Tryz.prog f s:=by
 rw[aG,aG]at hq;obtain⟨⟨q1,q2⟩,q3⟩:=hq;have hb:fn.body=some (fn.body.getD .skip):=by
  cases hc:fn.body with
  |none=>rw[hc]at q1;cases q1
  |some c=>rfl
 have hn : (fn.name == "runtime.NumGoroutine") = false := by simpa using q2
 exact An (ul hfn hb hn) (λ a _ e=>aq4 apY mixed hΓ hfn hb hn _ _ (of_decide_eq_true q3) h n ((hr a).trans e)) hg
abbrev tzG(g:cH xx):bz xx:=⟨[],[.d .bool],λ_=>none,some g⟩
theorem lr{f:FuncId}{fn:Func}{l:U (FuncId×bz xx)}(hΓ:sA Tryz.prog (xz l))(hfn:Tryz.prog.funcs[f]? =some fn){g:cH xx}(h:Hn SI)(n:Nat)
 (hq : (fn.body.isSome && !(fn.name == "runtime.NumGoroutine") && decide (g.pn.length <= fn.ntmps) && g.A5) = true:=by kernel_rfl)
 (hr:∀v,run (xz l) (XB tab) apX fn.ntmps n (fn.body.getD .skip) (VT (X:=xx) (Bt g).vars) h (FG g v) (apT (XB tab) fn.results.toList g)=g.fn v:=by intro _;kernel_rfl):wA Tryz.prog f ⟨[],[.d .bool],λ_=>none,some g⟩:=by
 rw[aG,aG,aG]at hq;obtain⟨⟨⟨q1,q2⟩,q3⟩,q4⟩:=hq;have hb:fn.body=some (fn.body.getD .skip):=by
  cases hc:fn.body with
  |none=>rw[hc]at q1;cases q1
  |some c=>rfl
 have hn : (fn.name == "runtime.NumGoroutine") = false := by simpa using q2
 exact Nd (ul hfn hb hn) (aqm apY mixed hΓ hfn hb hn g (of_decide_eq_true q3) q4 h n (λ v _ e=>(hr v).trans e))
theorem gcn:sA Tryz.prog (xz ([]:U (FuncId×bz xx))):=aA
abbrev ah:CT SI:=.int .i64
abbrev gG:CT SI:=.st SI.Order
abbrev aB:CT SI:=.st SI.l4
abbrev aI:CT SI:=.st SI.ir
abbrev dR:CT SI:=.st SI.eo
abbrev bB:CT SI:=.st SI.Def
abbrev aZ:CT SI:=.st SI.Table
abbrev bD:CT SI:=.st SI.Zone
abbrev aU:CT SI:=.st SI.Rule
abbrev bH:CT SI:=.st SI.Cap
abbrev aX:CT SI:=.st SI.gh
abbrev bF:CT SI:=.st SI.View
abbrev dx:CT SI:=.st SI.Case
abbrev aK(f:Nat)(s:bz xx):Prop:=wA Tryz.prog f s
abbrev ic:=(List fG)×(List bT)×(List dV)×(List bC)×(List gJ)×(List fA)×(List bS)×Int×(List ax)×(List aH)
end Go.Proofs
