import Derived.Test.YtnkhciolifefdaaGreatH1
import Derived.Test.YtnkhciolifefdaaGreatChecked
namespace Go.Proofs
open Go.Gb Go.RowKit
structure cK where
 op:Int
 n:Int
 s:ByteArray
 key:ByteArray
 args:(List cK)
mutual
def rf:cK->List Tree
 |⟨f0,f1,f2,f3,f4⟩=>[.sc (.int .i64 f0),.sc (.int .i64 f1),.sc (.string f2),.sc (.string f3),.sl (tJ f4)]
def tJ:List cK->List (List Tree)
 |[]=>[]
 |x::xs=>rf x::tJ xs
end
theorem tK:∀l:U cK,tJ l=l.map rf
 |[]=>rfl
 |x::xs=>by rw[tJ,tK xs];rfl
theorem WU(x:cK):rf x=[.sc (.int .i64 x.op),.sc (.int .i64 x.n),.sc (.string x.s),.sc (.string x.key),.sl (x.args.map rf)]:=by cases x;simp only[rf,tK]
structure bK where
 name:ByteArray
 zones:(List ByteArray)
 except:(List ByteArray)
 from_:Int
 jj:Int
 zp:Int
 vary:Bool
 kind:Int
 ld:Int
 mS:Int
 mN:ByteArray
 j8:ByteArray
 gb:(List cK)
 iu:Int
 iv:Int
 j9:Int
 ka:Int
 uses:Int
 other:Int
 n:Int
def vI(x:bK):U Tree:=[.sc (.string x.name),.sl (x.zones.map (λ y=>[.sc (.string y)])),.sl (x.except.map (λ y=>[.sc (.string y)])),.sc (.int .i64 x.from_),.sc (.int .i64 x.jj),.sc (.int .i64 x.zp),.sc (.bool x.vary),.sc (.int .i64 x.kind),.sc (.int .i64 x.ld),.sc (.int .i64 x.mS),.sc (.string x.mN),.sc (.string x.j8),.sl (x.gb.map rf),.sc (.int .i64 x.iu),.sc (.int .i64 x.iv),.sc (.int .i64 x.j9),.sc (.int .i64 x.ka),.sc (.int .i64 x.uses),.sc (.int .i64 x.other),.sc (.int .i64 x.n)]
structure eT where
 name:ByteArray
 i9:Int
 mf:Int
 k5:ByteArray
 iS:ByteArray
 eL:(List cK)
def Bo(x:eT):U Tree:=[.sc (.string x.name),.sc (.int .i64 x.i9),.sc (.int .i64 x.mf),.sc (.string x.k5),.sc (.string x.iS),.sl (x.eL.map rf)]
structure bX where
 name:ByteArray
 n:Int
 deriving DecidableEq,Inhabited
def C8(x:bX):U Tree:=[.sc (.string x.name),.sc (.int .i64 x.n)]
structure dx where
 name:ByteArray
 rows:(List bX)
 sn:Int
 deriving DecidableEq,Inhabited
def C9(x:dx):U Tree:=[.sc (.string x.name),.sl (x.rows.map C8),.sc (.int .i64 x.sn)]
structure bV where
 x:Int
 y:Int
 deriving DecidableEq,Inhabited
def WV(x:bV):U Tree:=[.sc (.int .i64 x.x),.sc (.int .i64 x.y)]
structure dN where
 name:ByteArray
 overlay:Bool
 corners:(List bV)
 deriving DecidableEq,Inhabited
def J5(x:dN):U Tree:=[.sc (.string x.name),.sc (.bool x.overlay),.sl (x.corners.map WV)]
structure gD where
 name:ByteArray
 load:Int
 limit:Int
 corners:(List bV)
 deriving DecidableEq,Inhabited
def Qi(x:gD):U Tree:=[.sc (.string x.name),.sc (.int .i64 x.load),.sc (.int .i64 x.limit),.sl (x.corners.map WV)]
structure cZ where
 x:Int
 y:Int
 z:Int
 deriving DecidableEq,Inhabited
def u7(x:cZ):U Tree:=[.sc (.int .i64 x.x),.sc (.int .i64 x.y),.sc (.int .i64 x.z)]
structure fA where
 name:ByteArray
 zE:Int
 zz:Int
 zv:Int
 least:Int
 targets:(List cZ)
 deriving DecidableEq,Inhabited
def J6(x:fA):U Tree:=[.sc (.string x.name),.sc (.int .i64 x.zE),.sc (.int .i64 x.zz),.sc (.int .i64 x.zv),.sc (.int .i64 x.least),.sl (x.targets.map u7)]
structure aA where
 x0:Int
 y0:Int
 x1:Int
 y1:Int
 deriving DecidableEq,Inhabited
def J7(x:aA):U Tree:=[.sc (.int .i64 x.x0),.sc (.int .i64 x.y0),.sc (.int .i64 x.x1),.sc (.int .i64 x.y1)]
structure dw where
 id:Int
 owner:Int
 area:(List aA)
 from_:(List Int)
 deriving DecidableEq,Inhabited
def IB(x:dw):U Tree:=[.sc (.int .i64 x.id),.sc (.int .i64 x.owner),.sl (x.area.map J7),.sl (x.from_.map (λ y=>[.sc (.int .i64 y)]))]
structure kT where
 lot:Int
 area:(List aA)
 top:Int
 deriving DecidableEq,Inhabited
def Ak(x:kT):U Tree:=[.sc (.int .i64 x.lot),.sl (x.area.map J7),.sc (.int .i64 x.top)]
structure NR where
 lot:Int
 td:Int
 tc:Int
 Jx:Int
 deriving DecidableEq,Inhabited
def J8(x:NR):U Tree:=[.sc (.int .i64 x.lot),.sc (.int .i64 x.td),.sc (.int .i64 x.tc),.sc (.int .i64 x.Jx)]
structure jh where
 lot:Int
 eI:Int
 eC:Int
 eE:Int
 ez:Int
 lv:Int
 lr:Int
 fp:Int
 mm:Int
 mn:Bool
 deriving DecidableEq,Inhabited
def J9(x:jh):U Tree:=[.sc (.int .i64 x.lot),.sc (.int .i64 x.eI),.sc (.int .i64 x.eC),.sc (.int .i64 x.eE),.sc (.int .i64 x.ez),.sc (.int .i64 x.lv),.sc (.int .i64 x.lr),.sc (.int .i64 x.fp),.sc (.int .i64 x.mm),.sc (.bool x.mn)]
structure cu where
 cm:(List eT)
 br:(List dx)
 bu:(List dN)
 az:(List bK)
 ct:(List gD)
 b9:(List fA)
 cE:(List cZ)
 ca:Int
 land:(List dw)
 co:(List kT)
 windows:(List NR)
 built:(List jh)
 base:(List bX)
def Ka(x:cu):U Tree:=[.sl (x.cm.map Bo),.sl (x.br.map C9),.sl (x.bu.map J5),.sl (x.az.map vI),.sl (x.ct.map Qi),.sl (x.b9.map J6),.sl (x.cE.map u7),.sc (.int .i64 x.ca),.sl (x.land.map IB),.sl (x.co.map Ak),.sl (x.windows.map J8),.sl (x.built.map J9),.sl (x.base.map C8)]
structure pF where
 defs:(List eT)
 uses:(List (List Int))
def ama(x:pF):U Tree:=[.sl (x.defs.map Bo),.sl (x.uses.map (λ y=>[.sl (y.map (λ y=>[.sc (.int .i64 y)]))]))]
structure bU where
 defs:(List eT)
 tables:(List dx)
 zones:(List dN)
 rules:(List bK)
 caps:(List gD)
 views:(List fA)
 uu:(List cZ)
 hours:Int
def aod(x:bU):U Tree:=[.sl (x.defs.map Bo),.sl (x.tables.map C9),.sl (x.zones.map J5),.sl (x.rules.map vI),.sl (x.caps.map Qi),.sl (x.views.map J6),.sl (x.uu.map u7),.sc (.int .i64 x.hours)]
structure jB where
 mi:Int
 pS:Int
 mA:Int
 ue:Int
 deriving DecidableEq,Inhabited
def aoe(x:jB):U Tree:=[.sc (.int .i64 x.mi),.sc (.int .i64 x.pS),.sc (.int .i64 x.mA),.sc (.int .i64 x.ue)]
structure kz where
 cw:(List eT)
 b8:(List dx)
 b7:(List dN)
 ci:(List bK)
 cx:(List gD)
 cg:(List fA)
 cD:(List cZ)
 cj:Int
 eW:(List dw)
 da:(List kT)
 d6:(List NR)
 dp:(List jh)
 fc:(List bX)
 day:Int
def agU(x:kz):U Tree:=[.sl (x.cw.map Bo),.sl (x.b8.map C9),.sl (x.b7.map J5),.sl (x.ci.map vI),.sl (x.cx.map Qi),.sl (x.cg.map J6),.sl (x.cD.map u7),.sc (.int .i64 x.cj),.sl (x.eW.map IB),.sl (x.da.map Ak),.sl (x.d6.map J8),.sl (x.dp.map J9),.sl (x.fc.map C8),.sc (.int .i64 x.day)]
structure bf where
 kind:Int
 lot:Int
 names:(List ByteArray)
 lh:Int
 lf:Int
 il:Int
 i8:Int
 td:Int
 tc:Int
 deriving DecidableEq,Inhabited
def agV(x:bf):U Tree:=[.sc (.int .i64 x.kind),.sc (.int .i64 x.lot),.sl (x.names.map (λ y=>[.sc (.string y)])),.sc (.int .i64 x.lh),.sc (.int .i64 x.lf),.sc (.int .i64 x.il),.sc (.int .i64 x.i8),.sc (.int .i64 x.td),.sc (.int .i64 x.tc)]
structure aP where
 from_:Int
 to:Int
 deriving DecidableEq,Inhabited
def aiS(x:aP):U Tree:=[.sc (.int .i64 x.from_),.sc (.int .i64 x.to)]
structure cB where
 x0:Int
 x1:Int
 column:(List aP)
 deriving DecidableEq,Inhabited
def amb(x:cB):U Tree:=[.sc (.int .i64 x.x0),.sc (.int .i64 x.x1),.sl (x.column.map aiS)]
structure aY where
 lot:Int
 use:Int
 floors:Int
 cP:Int
 deriving DecidableEq,Inhabited
def amc(x:aY):U Tree:=[.sc (.int .i64 x.lot),.sc (.int .i64 x.use),.sc (.int .i64 x.floors),.sc (.int .i64 x.cP)]
structure aJ where
 bz:Int
 cC:Int
 bx:Int
 cz:Int
 eQ:Int
 ev:Int
 use:Int
 units:Int
 extra:Bool
 deriving DecidableEq,Inhabited
def Kb(x:aJ):U Tree:=[.sc (.int .i64 x.bz),.sc (.int .i64 x.cC),.sc (.int .i64 x.bx),.sc (.int .i64 x.cz),.sc (.int .i64 x.eQ),.sc (.int .i64 x.ev),.sc (.int .i64 x.use),.sc (.int .i64 x.units),.sc (.bool x.extra)]
structure tL where
 cM:(List aJ)
 gives:(List bX)
 deriving DecidableEq,Inhabited
def WW(x:tL):U Tree:=[.sl (x.cM.map Kb),.sl (x.gives.map C8)]
structure bD where
 lot:Int
 phases:(List tL)
 deriving DecidableEq,Inhabited
def agW(x:bD):U Tree:=[.sc (.int .i64 x.lot),.sl (x.phases.map WW)]
structure DQ where
 oX:Int
 oS:Int
 oT:Int
 oR:Int
 z0:Int
 z1:Int
 deriving DecidableEq,Inhabited
def apC(x:DQ):U Tree:=[.sc (.int .i64 x.oX),.sc (.int .i64 x.oS),.sc (.int .i64 x.oT),.sc (.int .i64 x.oR),.sc (.int .i64 x.z0),.sc (.int .i64 x.z1)]
structure mD where
 cw:(List eT)
 b8:(List dx)
 b7:(List dN)
 ci:(List bK)
 cx:(List gD)
 cg:(List fA)
 cD:(List cZ)
 cj:Int
 eW:(List dw)
 da:(List kT)
 d6:(List NR)
 dp:(List jh)
 fc:(List bX)
 s7:Int
 m5:Int
 kB:(List aA)
 pj:(List Int)
 eh:Int
 iz:(List tL)
 cM:(List aJ)
 zones:(List ByteArray)
def amd(x:mD):U Tree:=[.sl (x.cw.map Bo),.sl (x.b8.map C9),.sl (x.b7.map J5),.sl (x.ci.map vI),.sl (x.cx.map Qi),.sl (x.cg.map J6),.sl (x.cD.map u7),.sc (.int .i64 x.cj),.sl (x.eW.map IB),.sl (x.da.map Ak),.sl (x.d6.map J8),.sl (x.dp.map J9),.sl (x.fc.map C8),.sc (.int .i64 x.s7),.sc (.int .i64 x.m5),.sl (x.kB.map J7),.sl (x.pj.map (λ y=>[.sc (.int .i64 y)])),.sc (.int .i64 x.eh),.sl (x.iz.map WW),.sl (x.cM.map Kb),.sl (x.zones.map (λ y=>[.sc (.string y)]))]
structure ao5 where
 cm:(List eT)
 br:(List dx)
 bu:(List dN)
 az:(List bK)
 ct:(List gD)
 b9:(List fA)
 cE:(List cZ)
 ca:Int
 area:(List aA)
 cM:(List aJ)
def aof(x:ao5):U Tree:=[.sl (x.cm.map Bo),.sl (x.br.map C9),.sl (x.bu.map J5),.sl (x.az.map vI),.sl (x.ct.map Qi),.sl (x.b9.map J6),.sl (x.cE.map u7),.sc (.int .i64 x.ca),.sl (x.area.map J7),.sl (x.cM.map Kb)]
structure Kc where
 a0:ByteArray
 a1:ByteArray
 a2:ByteArray
 a3:ByteArray
 a4:ByteArray
 a5:ByteArray
 deriving DecidableEq,Inhabited
def akf(x:Kc):U Tree:=[.sc (.string x.a0),.sc (.string x.a1),.sc (.string x.a2),.sc (.string x.a3),.sc (.string x.a4),.sc (.string x.a5)]
structure fV where
 z0:Int
 z1:Int
 area:(List aA)
 deriving DecidableEq,Inhabited
def aog(x:fV):U Tree:=[.sc (.int .i64 x.z0),.sc (.int .i64 x.z1),.sl (x.area.map J7)]
structure d9 where
 side:Int
 base:Int
 num:Int
 den:Int
 deriving DecidableEq,Inhabited
def ame(x:d9):U Tree:=[.sc (.int .i64 x.side),.sc (.int .i64 x.base),.sc (.int .i64 x.num),.sc (.int .i64 x.den)]
structure NS where
 a0:Int
 a1:Int
 a2:Int
 a3:Int
 deriving DecidableEq,Inhabited
def akg(x:NS):U Tree:=[.sc (.int .i64 x.a0),.sc (.int .i64 x.a1),.sc (.int .i64 x.a2),.sc (.int .i64 x.a3)]
structure iU where
 a0:Int
 a1:Int
 deriving DecidableEq,Inhabited
def akh(x:iU):U Tree:=[.sc (.int .i64 x.a0),.sc (.int .i64 x.a1)]
inductive SI where
 |Expr
 |Rule
 |Def
 |Entry
 |Table
 |ie
 |Zone
 |Cap
 |gi
 |View
 |mC
 |Lot
 |fm
 |Window
 |gj
 |kf
 |graph
 |ur
 |side
 |ij
 |Finding
 |span
 |strip
 |kw
 |jz
 |Phase
 |ej
 |E3
 |ky
 |site
 |m9
 |ll
 |gz
 |nb
 |ee
 deriving DecidableEq
@[reducible] def TT:SI->Type
 | .Expr=>cK
 | .Rule=>bK
 | .Def=>eT
 | .Entry=>bX
 | .Table=>dx
 | .ie=>bV
 | .Zone=>dN
 | .Cap=>gD
 | .gi=>cZ
 | .View=>fA
 | .mC=>aA
 | .Lot=>dw
 | .fm=>kT
 | .Window=>NR
 | .gj=>jh
 | .kf=>cu
 | .graph=>pF
 | .ur=>bU
 | .side=>jB
 | .ij=>kz
 | .Finding=>bf
 | .span=>aP
 | .strip=>cB
 | .kw=>aY
 | .jz=>aJ
 | .Phase=>tL
 | .ej=>bD
 | .E3=>DQ
 | .ky=>mD
 | .site=>ao5
 | .m9=>Kc
 | .ll=>fV
 | .gz=>d9
 | .nb=>NS
 | .ee=>iU
def aqC:(i:SI)->TT i->U Tree
 | .Expr,x=>rf x
 | .Rule,x=>vI x
 | .Def,x=>Bo x
 | .Entry,x=>C8 x
 | .Table,x=>C9 x
 | .ie,x=>WV x
 | .Zone,x=>J5 x
 | .Cap,x=>Qi x
 | .gi,x=>u7 x
 | .View,x=>J6 x
 | .mC,x=>J7 x
 | .Lot,x=>IB x
 | .fm,x=>Ak x
 | .Window,x=>J8 x
 | .gj,x=>J9 x
 | .kf,x=>Ka x
 | .graph,x=>ama x
 | .ur,x=>aod x
 | .side,x=>aoe x
 | .ij,x=>agU x
 | .Finding,x=>agV x
 | .span,x=>aiS x
 | .strip,x=>amb x
 | .kw,x=>amc x
 | .jz,x=>Kb x
 | .Phase,x=>WW x
 | .ej,x=>agW x
 | .E3,x=>apC x
 | .ky,x=>amd x
 | .site,x=>aof x
 | .m9,x=>akf x
 | .ll,x=>aog x
 | .gz,x=>ame x
 | .nb,x=>akg x
 | .ee,x=>akh x
def se:SE:=⟨SI,inferInstance,TT,aqC⟩
def W0:SI->U (CT SI)
 | .Expr=>[(.int .i64),(.int .i64),.str,.str,(.sl (.st SI.Expr))]
 | .Rule=>[.str,(.sl .str),(.sl .str),(.int .i64),(.int .i64),(.int .i64),.bool,(.int .i64),(.int .i64),(.int .i64),.str,.str,(.sl (.st SI.Expr)),(.int .i64),(.int .i64),(.int .i64),(.int .i64),(.int .i64),(.int .i64),(.int .i64)]
 | .Def=>[.str,(.int .i64),(.int .i64),.str,.str,(.sl (.st SI.Expr))]
 | .Entry=>[.str,(.int .i64)]
 | .Table=>[.str,(.sl (.st SI.Entry)),(.int .i64)]
 | .ie=>[(.int .i64),(.int .i64)]
 | .Zone=>[.str,.bool,(.sl (.st SI.ie))]
 | .Cap=>[.str,(.int .i64),(.int .i64),(.sl (.st SI.ie))]
 | .gi=>[(.int .i64),(.int .i64),(.int .i64)]
 | .View=>[.str,(.int .i64),(.int .i64),(.int .i64),(.int .i64),(.sl (.st SI.gi))]
 | .mC=>[(.int .i64),(.int .i64),(.int .i64),(.int .i64)]
 | .Lot=>[(.int .i64),(.int .i64),(.sl (.st SI.mC)),(.sl (.int .i64))]
 | .fm=>[(.int .i64),(.sl (.st SI.mC)),(.int .i64)]
 | .Window=>[(.int .i64),(.int .i64),(.int .i64),(.int .i64)]
 | .gj=>[(.int .i64),(.int .i64),(.int .i64),(.int .i64),(.int .i64),(.int .i64),(.int .i64),(.int .i64),(.int .i64),.bool]
 | .kf=>[(.sl (.st SI.Def)),(.sl (.st SI.Table)),(.sl (.st SI.Zone)),(.sl (.st SI.Rule)),(.sl (.st SI.Cap)),(.sl (.st SI.View)),(.sl (.st SI.gi)),(.int .i64),(.sl (.st SI.Lot)),(.sl (.st SI.fm)),(.sl (.st SI.Window)),(.sl (.st SI.gj)),(.sl (.st SI.Entry))]
 | .graph=>[(.sl (.st SI.Def)),(.sl (.sl (.int .i64)))]
 | .ur=>[(.sl (.st SI.Def)),(.sl (.st SI.Table)),(.sl (.st SI.Zone)),(.sl (.st SI.Rule)),(.sl (.st SI.Cap)),(.sl (.st SI.View)),(.sl (.st SI.gi)),(.int .i64)]
 | .side=>[(.int .i64),(.int .i64),(.int .i64),(.int .i64)]
 | .ij=>[(.sl (.st SI.Def)),(.sl (.st SI.Table)),(.sl (.st SI.Zone)),(.sl (.st SI.Rule)),(.sl (.st SI.Cap)),(.sl (.st SI.View)),(.sl (.st SI.gi)),(.int .i64),(.sl (.st SI.Lot)),(.sl (.st SI.fm)),(.sl (.st SI.Window)),(.sl (.st SI.gj)),(.sl (.st SI.Entry)),(.int .i64)]
 | .Finding=>[(.int .i64),(.int .i64),(.sl .str),(.int .i64),(.int .i64),(.int .i64),(.int .i64),(.int .i64),(.int .i64)]
 | .span=>[(.int .i64),(.int .i64)]
 | .strip=>[(.int .i64),(.int .i64),(.sl (.st SI.span))]
 | .kw=>[(.int .i64),(.int .i64),(.int .i64),(.int .i64)]
 | .jz=>[(.int .i64),(.int .i64),(.int .i64),(.int .i64),(.int .i64),(.int .i64),(.int .i64),(.int .i64),.bool]
 | .Phase=>[(.sl (.st SI.jz)),(.sl (.st SI.Entry))]
 | .ej=>[(.int .i64),(.sl (.st SI.Phase))]
 | .E3=>[(.int .i64),(.int .i64),(.int .i64),(.int .i64),(.int .i64),(.int .i64)]
 | .ky=>[(.sl (.st SI.Def)),(.sl (.st SI.Table)),(.sl (.st SI.Zone)),(.sl (.st SI.Rule)),(.sl (.st SI.Cap)),(.sl (.st SI.View)),(.sl (.st SI.gi)),(.int .i64),(.sl (.st SI.Lot)),(.sl (.st SI.fm)),(.sl (.st SI.Window)),(.sl (.st SI.gj)),(.sl (.st SI.Entry)),(.int .i64),(.int .i64),(.sl (.st SI.mC)),(.sl (.int .i64)),(.int .i64),(.sl (.st SI.Phase)),(.sl (.st SI.jz)),(.sl .str)]
 | .site=>[(.sl (.st SI.Def)),(.sl (.st SI.Table)),(.sl (.st SI.Zone)),(.sl (.st SI.Rule)),(.sl (.st SI.Cap)),(.sl (.st SI.View)),(.sl (.st SI.gi)),(.int .i64),(.sl (.st SI.mC)),(.sl (.st SI.jz))]
 | .m9=>[.str,.str,.str,.str,.str,.str]
 | .ll=>[(.int .i64),(.int .i64),(.sl (.st SI.mC))]
 | .gz=>[(.int .i64),(.int .i64),(.int .i64),(.int .i64)]
 | .nb=>[(.int .i64),(.int .i64),(.int .i64),(.int .i64)]
 | .ee=>[(.int .i64),(.int .i64)]
def aqD:(i:SI)->TT i->HL se (W0 i)
 | .Expr,x=>(x.op,x.n,x.s,x.key,x.args,())
 | .Rule,x=>(x.name,x.zones,x.except,x.from_,x.jj,x.zp,x.vary,x.kind,x.ld,x.mS,x.mN,x.j8,x.gb,x.iu,x.iv,x.j9,x.ka,x.uses,x.other,x.n,())
 | .Def,x=>(x.name,x.i9,x.mf,x.k5,x.iS,x.eL,())
 | .Entry,x=>(x.name,x.n,())
 | .Table,x=>(x.name,x.rows,x.sn,())
 | .ie,x=>(x.x,x.y,())
 | .Zone,x=>(x.name,x.overlay,x.corners,())
 | .Cap,x=>(x.name,x.load,x.limit,x.corners,())
 | .gi,x=>(x.x,x.y,x.z,())
 | .View,x=>(x.name,x.zE,x.zz,x.zv,x.least,x.targets,())
 | .mC,x=>(x.x0,x.y0,x.x1,x.y1,())
 | .Lot,x=>(x.id,x.owner,x.area,x.from_,())
 | .fm,x=>(x.lot,x.area,x.top,())
 | .Window,x=>(x.lot,x.td,x.tc,x.Jx,())
 | .gj,x=>(x.lot,x.eI,x.eC,x.eE,x.ez,x.lv,x.lr,x.fp,x.mm,x.mn,())
 | .kf,x=>(x.cm,x.br,x.bu,x.az,x.ct,x.b9,x.cE,x.ca,x.land,x.co,x.windows,x.built,x.base,())
 | .graph,x=>(x.defs,x.uses,())
 | .ur,x=>(x.defs,x.tables,x.zones,x.rules,x.caps,x.views,x.uu,x.hours,())
 | .side,x=>(x.mi,x.pS,x.mA,x.ue,())
 | .ij,x=>(x.cw,x.b8,x.b7,x.ci,x.cx,x.cg,x.cD,x.cj,x.eW,x.da,x.d6,x.dp,x.fc,x.day,())
 | .Finding,x=>(x.kind,x.lot,x.names,x.lh,x.lf,x.il,x.i8,x.td,x.tc,())
 | .span,x=>(x.from_,x.to,())
 | .strip,x=>(x.x0,x.x1,x.column,())
 | .kw,x=>(x.lot,x.use,x.floors,x.cP,())
 | .jz,x=>(x.bz,x.cC,x.bx,x.cz,x.eQ,x.ev,x.use,x.units,x.extra,())
 | .Phase,x=>(x.cM,x.gives,())
 | .ej,x=>(x.lot,x.phases,())
 | .E3,x=>(x.oX,x.oS,x.oT,x.oR,x.z0,x.z1,())
 | .ky,x=>(x.cw,x.b8,x.b7,x.ci,x.cx,x.cg,x.cD,x.cj,x.eW,x.da,x.d6,x.dp,x.fc,x.s7,x.m5,x.kB,x.pj,x.eh,x.iz,x.cM,x.zones,())
 | .site,x=>(x.cm,x.br,x.bu,x.az,x.ct,x.b9,x.cE,x.ca,x.area,x.cM,())
 | .m9,x=>(x.a0,x.a1,x.a2,x.a3,x.a4,x.a5,())
 | .ll,x=>(x.z0,x.z1,x.area,())
 | .gz,x=>(x.side,x.base,x.num,x.den,())
 | .nb,x=>(x.a0,x.a1,x.a2,x.a3,())
 | .ee,x=>(x.a0,x.a1,())
def aqe:(i:SI)->HL se (W0 i)->TT i
 | .Expr,h=>⟨h.1,h.2.1,h.2.2.1,h.2.2.2.1,h.2.2.2.2.1⟩
 | .Rule,h=>⟨h.1,h.2.1,h.2.2.1,h.2.2.2.1,h.2.2.2.2.1,h.2.2.2.2.2.1,h.2.2.2.2.2.2.1,h.2.2.2.2.2.2.2.1,h.2.2.2.2.2.2.2.2.1,h.2.2.2.2.2.2.2.2.2.1,h.2.2.2.2.2.2.2.2.2.2.1,h.2.2.2.2.2.2.2.2.2.2.2.1,h.2.2.2.2.2.2.2.2.2.2.2.2.1,h.2.2.2.2.2.2.2.2.2.2.2.2.2.1,h.2.2.2.2.2.2.2.2.2.2.2.2.2.2.1,h.2.2.2.2.2.2.2.2.2.2.2.2.2.2.2.1,h.2.2.2.2.2.2.2.2.2.2.2.2.2.2.2.2.1,h.2.2.2.2.2.2.2.2.2.2.2.2.2.2.2.2.2.1,h.2.2.2.2.2.2.2.2.2.2.2.2.2.2.2.2.2.2.1,h.2.2.2.2.2.2.2.2.2.2.2.2.2.2.2.2.2.2.2.1⟩
 | .Def,h=>⟨h.1,h.2.1,h.2.2.1,h.2.2.2.1,h.2.2.2.2.1,h.2.2.2.2.2.1⟩
 | .Entry,h=>⟨h.1,h.2.1⟩
 | .Table,h=>⟨h.1,h.2.1,h.2.2.1⟩
 | .ie,h=>⟨h.1,h.2.1⟩
 | .Zone,h=>⟨h.1,h.2.1,h.2.2.1⟩
 | .Cap,h=>⟨h.1,h.2.1,h.2.2.1,h.2.2.2.1⟩
 | .gi,h=>⟨h.1,h.2.1,h.2.2.1⟩
 | .View,h=>⟨h.1,h.2.1,h.2.2.1,h.2.2.2.1,h.2.2.2.2.1,h.2.2.2.2.2.1⟩
 | .mC,h=>⟨h.1,h.2.1,h.2.2.1,h.2.2.2.1⟩
 | .Lot,h=>⟨h.1,h.2.1,h.2.2.1,h.2.2.2.1⟩
 | .fm,h=>⟨h.1,h.2.1,h.2.2.1⟩
 | .Window,h=>⟨h.1,h.2.1,h.2.2.1,h.2.2.2.1⟩
 | .gj,h=>⟨h.1,h.2.1,h.2.2.1,h.2.2.2.1,h.2.2.2.2.1,h.2.2.2.2.2.1,h.2.2.2.2.2.2.1,h.2.2.2.2.2.2.2.1,h.2.2.2.2.2.2.2.2.1,h.2.2.2.2.2.2.2.2.2.1⟩
 | .kf,h=>⟨h.1,h.2.1,h.2.2.1,h.2.2.2.1,h.2.2.2.2.1,h.2.2.2.2.2.1,h.2.2.2.2.2.2.1,h.2.2.2.2.2.2.2.1,h.2.2.2.2.2.2.2.2.1,h.2.2.2.2.2.2.2.2.2.1,h.2.2.2.2.2.2.2.2.2.2.1,h.2.2.2.2.2.2.2.2.2.2.2.1,h.2.2.2.2.2.2.2.2.2.2.2.2.1⟩
 | .graph,h=>⟨h.1,h.2.1⟩
 | .ur,h=>⟨h.1,h.2.1,h.2.2.1,h.2.2.2.1,h.2.2.2.2.1,h.2.2.2.2.2.1,h.2.2.2.2.2.2.1,h.2.2.2.2.2.2.2.1⟩
 | .side,h=>⟨h.1,h.2.1,h.2.2.1,h.2.2.2.1⟩
 | .ij,h=>⟨h.1,h.2.1,h.2.2.1,h.2.2.2.1,h.2.2.2.2.1,h.2.2.2.2.2.1,h.2.2.2.2.2.2.1,h.2.2.2.2.2.2.2.1,h.2.2.2.2.2.2.2.2.1,h.2.2.2.2.2.2.2.2.2.1,h.2.2.2.2.2.2.2.2.2.2.1,h.2.2.2.2.2.2.2.2.2.2.2.1,h.2.2.2.2.2.2.2.2.2.2.2.2.1,h.2.2.2.2.2.2.2.2.2.2.2.2.2.1⟩
 | .Finding,h=>⟨h.1,h.2.1,h.2.2.1,h.2.2.2.1,h.2.2.2.2.1,h.2.2.2.2.2.1,h.2.2.2.2.2.2.1,h.2.2.2.2.2.2.2.1,h.2.2.2.2.2.2.2.2.1⟩
 | .span,h=>⟨h.1,h.2.1⟩
 | .strip,h=>⟨h.1,h.2.1,h.2.2.1⟩
 | .kw,h=>⟨h.1,h.2.1,h.2.2.1,h.2.2.2.1⟩
 | .jz,h=>⟨h.1,h.2.1,h.2.2.1,h.2.2.2.1,h.2.2.2.2.1,h.2.2.2.2.2.1,h.2.2.2.2.2.2.1,h.2.2.2.2.2.2.2.1,h.2.2.2.2.2.2.2.2.1⟩
 | .Phase,h=>⟨h.1,h.2.1⟩
 | .ej,h=>⟨h.1,h.2.1⟩
 | .E3,h=>⟨h.1,h.2.1,h.2.2.1,h.2.2.2.1,h.2.2.2.2.1,h.2.2.2.2.2.1⟩
 | .ky,h=>⟨h.1,h.2.1,h.2.2.1,h.2.2.2.1,h.2.2.2.2.1,h.2.2.2.2.2.1,h.2.2.2.2.2.2.1,h.2.2.2.2.2.2.2.1,h.2.2.2.2.2.2.2.2.1,h.2.2.2.2.2.2.2.2.2.1,h.2.2.2.2.2.2.2.2.2.2.1,h.2.2.2.2.2.2.2.2.2.2.2.1,h.2.2.2.2.2.2.2.2.2.2.2.2.1,h.2.2.2.2.2.2.2.2.2.2.2.2.2.1,h.2.2.2.2.2.2.2.2.2.2.2.2.2.2.1,h.2.2.2.2.2.2.2.2.2.2.2.2.2.2.2.1,h.2.2.2.2.2.2.2.2.2.2.2.2.2.2.2.2.1,h.2.2.2.2.2.2.2.2.2.2.2.2.2.2.2.2.2.1,h.2.2.2.2.2.2.2.2.2.2.2.2.2.2.2.2.2.2.1,h.2.2.2.2.2.2.2.2.2.2.2.2.2.2.2.2.2.2.2.1,h.2.2.2.2.2.2.2.2.2.2.2.2.2.2.2.2.2.2.2.2.1⟩
 | .site,h=>⟨h.1,h.2.1,h.2.2.1,h.2.2.2.1,h.2.2.2.2.1,h.2.2.2.2.2.1,h.2.2.2.2.2.2.1,h.2.2.2.2.2.2.2.1,h.2.2.2.2.2.2.2.2.1,h.2.2.2.2.2.2.2.2.2.1⟩
 | .m9,h=>⟨h.1,h.2.1,h.2.2.1,h.2.2.2.1,h.2.2.2.2.1,h.2.2.2.2.2.1⟩
 | .ll,h=>⟨h.1,h.2.1,h.2.2.1⟩
 | .gz,h=>⟨h.1,h.2.1,h.2.2.1,h.2.2.2.1⟩
 | .nb,h=>⟨h.1,h.2.1,h.2.2.1,h.2.2.2.1⟩
 | .ee,h=>⟨h.1,h.2.1⟩
def gvS:Nat->J ((c:CT SI)×CT.T se c):=λ_=>none
def xx:SX:={ toSE:=se,c7:=W0,get:=aqD,make:=aqe,mw:=by intro i x;cases i<;>first |rfl |exact WU _,gp:=by intro i h;cases i<;>first |rfl |exact WU _,flat:=by intro i;cases i<;>rfl,gv:=gvS,zj:=λ_=>rfl }
abbrev df:Value:=.slice none 0 0
abbrev du:Value:=.int .i64 0
abbrev Hd:Value:=.bool false
abbrev ml:Value:=.string ⟨#[]⟩
def tab:U (TypeId×nr):=[
 (2,⟨1,8,false,[du],.int .i64,[]⟩),
 (3,⟨1,8,false,[du],.int .i64,[]⟩),
 (4,⟨1,1,false,[Hd],.bool,[]⟩),
 (9,⟨1,16,false,[ml],.str,[]⟩),
 (22,⟨1,24,false,[df],.slice 67,[]⟩),
 (23,⟨1,24,false,[df],.slice 119,[]⟩),
 (24,⟨1,24,false,[df],.slice 111,[]⟩),
 (25,⟨1,24,false,[df],.slice 63,[]⟩),
 (26,⟨1,24,false,[df],.slice 121,[]⟩),
 (27,⟨1,24,false,[df],.slice 399,[]⟩),
 (28,⟨1,24,false,[df],.slice 397,[]⟩),
 (30,⟨8,176,true,[df,df,df,df,df,df,df,du],.struct [(0,22),(1,23),(2,24),(3,25),(4,26),(5,27),(6,28),(7,3)],[]⟩),
 (31,⟨1,24,false,[df],.slice 43,[]⟩),
 (32,⟨1,24,false,[df],.slice 78,[]⟩),
 (33,⟨1,24,false,[df],.slice 401,[]⟩),
 (34,⟨1,24,false,[df],.slice 252,[]⟩),
 (35,⟨1,24,false,[df],.slice 232,[]⟩),
 (37,⟨13,296,true,[df,df,df,df,df,df,df,du,df,df,df,df,df],.struct [(0,30),(8,31),(9,32),(10,33),(11,34),(12,35)],[]⟩),
 (40,⟨1,24,false,[df],.slice 92,[]⟩),
 (41,⟨1,24,false,[df],.slice 3,[]⟩),
 (43,⟨4,64,true,[du,du,df,df],.struct [(0,3),(1,3),(2,40),(3,41)],[]⟩),
 (45,⟨4,32,true,[du,du,du,du],.struct [(0,3),(1,3),(2,3),(3,3)],[0,0,0,0]⟩),
 (49,⟨1,24,false,[df],.slice 45,[]⟩),
 (55,⟨1,24,false,[df],.slice 9,[]⟩),
 (56,⟨1,24,false,[df],.slice 58,[]⟩),
 (58,⟨5,72,true,[du,du,ml,ml,df],.struct [(0,3),(1,3),(2,9),(3,9),(4,56)],[]⟩),
 (61,⟨4,32,true,[du,du,du,du],.struct [(0,3),(1,3),(2,3),(3,3)],[0,0,0,0]⟩),
 (63,⟨20,232,true,[ml,df,df,du,du,du,Hd,du,du,du,ml,ml,df,du,du,du,du,du,du,du],.struct [(0,9),(1,55),(2,55),(3,3),(4,3),(5,3),(6,4),(7,3),(8,58),(13,61),(17,3),(18,3),(19,3)],[]⟩),
 (64,⟨1,24,false,[df],.slice 74,[]⟩),
 (67,⟨6,88,true,[ml,du,du,ml,ml,df],.struct [(0,9),(1,58)],[]⟩),
 (72,⟨2,16,true,[du,du],.struct [(0,3),(1,3)],[0,0]⟩),
 (74,⟨9,88,true,[du,du,df,du,du,du,du,du,du],.struct [(0,3),(1,3),(2,55),(3,45),(7,72)],[]⟩),
 (78,⟨3,40,true,[du,df,du],.struct [(0,3),(1,40),(2,3)],[]⟩),
 (81,⟨14,304,true,[df,df,df,df,df,df,df,du,df,df,df,df,df,du],.struct [(0,37),(13,3)],[]⟩),
 (83,⟨1,24,false,[df],.slice 104,[]⟩),
 (85,⟨2,32,true,[du,df],.struct [(0,3),(1,83)],[]⟩),
 (89,⟨1,8,false,[.map none],.map 96 3,[]⟩),
 (90,⟨1,8,false,[.map none],.map 3 4,[]⟩),
 (92,⟨4,32,true,[du,du,du,du],.struct [(0,3),(1,3),(2,3),(3,3)],[0,0,0,0]⟩),
 (96,⟨2,16,true,[du,du],.arr 2 3,[]⟩),
 (97,⟨1,8,false,[.nilFunc],.other,[]⟩),
 (102,⟨1,24,false,[df],.slice 108,[]⟩),
 (104,⟨2,48,true,[df,df],.struct [(0,102),(1,35)],[]⟩),
 (106,⟨6,48,true,[du,du,du,du,du,du],.struct [(0,92),(4,3),(5,3)],[]⟩),
 (108,⟨9,72,true,[du,du,du,du,du,du,du,du,Hd],.struct [(0,106),(6,3),(7,3),(8,4)],[]⟩),
 (109,⟨1,24,false,[df],.slice 72,[]⟩),
 (111,⟨3,48,true,[ml,Hd,df],.struct [(0,9),(1,4),(2,109)],[]⟩),
 (119,⟨3,48,true,[ml,df,du],.struct [(0,9),(1,35),(2,3)],[]⟩),
 (121,⟨4,56,true,[ml,du,du,df],.struct [(0,9),(1,3),(2,3),(3,109)],[]⟩),
 (136,⟨1,8,false,[.int .u64 0],.int .u64,[]⟩),
 (147,⟨21,440,true,[df,df,df,df,df,df,df,du,df,df,df,df,df,du,du,df,df,du,df,df,df],.struct [(0,37),(13,43),(17,85),(19,102),(20,55)],[]⟩),
 (155,⟨1,24,false,[df],.slice 199,[]⟩),
 (172,⟨1,8,false,[.map none],.map 9 4,[]⟩),
 (177,⟨1,24,false,[df],.slice 40,[]⟩),
 (193,⟨1,24,false,[df],.slice 61,[]⟩),
 (199,⟨3,40,true,[du,du,df],.struct [(0,3),(1,3),(2,40)],[]⟩),
 (201,⟨1,24,false,[df],.slice 205,[]⟩),
 (203,⟨1,24,false,[df],.slice 264,[]⟩),
 (205,⟨3,40,true,[du,du,df],.struct [(0,3),(1,3),(2,203)],[]⟩),
 (215,⟨1,8,false,[.map none],.map 9 3,[]⟩),
 (216,⟨1,24,false,[df],.slice 41,[]⟩),
 (218,⟨2,48,true,[df,df],.struct [(0,22),(1,216)],[]⟩),
 (222,⟨1,24,false,[df],.slice 4,[]⟩),
 (232,⟨2,24,true,[ml,du],.struct [(0,9),(1,3)],[2,0]⟩),
 (237,⟨10,208,true,[df,df,df,df,df,df,df,du,.map none,df],.struct [(0,30),(8,215),(9,55)],[]⟩),
 (240,⟨1,8,false,[.pointer none],.other,[]⟩),
 (242,⟨10,224,true,[df,df,df,df,df,df,df,du,df,df],.struct [(0,30),(8,40),(9,102)],[]⟩),
 (244,⟨1,8,false,[.nilFunc],.other,[]⟩),
 (246,⟨2,24,true,[ml,.nilFunc],.struct [(0,9),(1,244)],[]⟩),
 (247,⟨18,216,true,[ml,.nilFunc,ml,.nilFunc,ml,.nilFunc,ml,.nilFunc,ml,.nilFunc,ml,.nilFunc,ml,.nilFunc,ml,.nilFunc,ml,.nilFunc],.arr 9 246,[]⟩),
 (252,⟨10,80,true,[du,du,du,du,du,du,du,du,du,Hd],.struct [(0,3),(1,108)],[]⟩),
 (264,⟨2,16,true,[du,du],.struct [(0,3),(1,3)],[0,0]⟩),
 (281,⟨1,24,false,[df],.slice 284,[]⟩),
 (284,⟨4,32,true,[du,du,du,du],.struct [(0,72),(2,72)],[]⟩),
 (311,⟨1,24,false,[df],.slice 203,[]⟩),
 (331,⟨4,32,true,[du,du,du,du],.arr 4 3,[]⟩),
 (352,⟨6,96,true,[ml,ml,ml,ml,ml,ml],.arr 6 9,[]⟩),
 (397,⟨3,24,true,[du,du,du],.struct [(0,3),(1,3),(2,3)],[0,0,0]⟩),
 (399,⟨6,72,true,[ml,du,du,du,du,df],.struct [(0,9),(1,397),(4,3),(5,28)],[]⟩),
 (401,⟨4,32,true,[du,du,du,du],.struct [(0,3),(1,397)],[]⟩)]
def aqf:U (TypeId×CT SI):=[(3,(.int .i64)),(4,.bool),(9,.str),(40,(.sl (.st SI.mC))),(43,(.st SI.Lot)),(45,(.st SI.kw)),(58,(.st SI.Expr)),(61,(.st SI.gz)),(63,(.st SI.Rule)),(67,(.st SI.Def)),(72,(.st SI.ie)),(74,(.st SI.Finding)),(92,(.st SI.mC)),(96,(.st SI.ee)),(104,(.st SI.Phase)),(108,(.st SI.jz)),(111,(.st SI.Zone)),(199,(.st SI.ll)),(203,(.sl (.st SI.span))),(205,(.st SI.strip)),(232,(.st SI.Entry)),(264,(.st SI.span)),(284,(.st SI.side))]
def ao6:TypeId->J (CT xx.ι):=lk aqf
theorem Pa:fu Tryz.prog (RF tab):=ali (by kernel_rfl)
theorem mixed:Tryz.prog.follows .mixedOrders=true:=Checked.mixed Tryz.checked
theorem cq{f:FuncId}{fn:Func}{l:U (FuncId×cp xx)}(hΓ:sE Tryz.prog (xt l))(hfn:Tryz.prog.funcs[f]? =some fn){s:cp xx}(h:Hn SI)(n:Nat)
 (hq : (fn.body.isSome && !(fn.name == "runtime.NumGoroutine") && decide (s.args.length <= fn.ntmps /\ qx s.args <= 1000 /\ (s.res.filter RT.out).length = qx s.args)) = true := by kernel_rfl) (hg : s.gen = none := by rfl)
 (hr:∀a,run (xt l) (RF tab) ao6 fn.ntmps n (fn.body.getD .skip) (sQ xx s.res) h (xi s.args a) (ap6 (RF tab) fn.results.toList s.res)=s.fn a:=by intro _;kernel_rfl):AK Tryz.prog f s:=by
 rw[aN,aN]at hq;obtain⟨⟨q1,q2⟩,q3⟩:=hq;have hb:fn.body=some (fn.body.getD .skip):=by
  cases hc:fn.body with
  |none=>rw[hc]at q1;cases q1
  |some c=>rfl
 have hn : (fn.name == "runtime.NumGoroutine") = false := by simpa using q2
 exact z7 (nu hfn hb hn) (λ a _ e=>ap7 Pa mixed hΓ hfn hb hn _ _ (of_decide_eq_true q3) h n ((hr a).trans e)) hg
theorem oE{f:FuncId}{fn:Func}{l:U (FuncId×cp xx)}(hΓ:sE Tryz.prog (xt l))(hfn:Tryz.prog.funcs[f]? =some fn){g:dg xx}(h:Hn SI)(n:Nat)
 (hq : (fn.body.isSome && !(fn.name == "runtime.NumGoroutine") && decide (g.pP.length <= fn.ntmps) && g.A3) = true)
 (hr:∀v,run (xt l) (RF tab) ao6 fn.ntmps n (fn.body.getD .skip) (VT (X:=xx) (Aj g).vars) h (Ge g v) (ao2 (RF tab) fn.results.toList g)=g.fn v):AK Tryz.prog f ⟨[],[.d .bool],λ_=>none,some g⟩:=by
 rw[aN,aN,aN]at hq;obtain⟨⟨⟨q1,q2⟩,q3⟩,q4⟩:=hq;have hb:fn.body=some (fn.body.getD .skip):=by
  cases hc:fn.body with
  |none=>rw[hc]at q1;cases q1
  |some c=>rfl
 have hn : (fn.name == "runtime.NumGoroutine") = false := by simpa using q2
 exact M2 (nu hfn hb hn) (apr Pa mixed hΓ hfn hb hn g (of_decide_eq_true q3) q4 h n (λ v _ e=>(hr v).trans e))
theorem gcn:sE Tryz.prog (xt ([]:U (FuncId×cp xx))):=aD
abbrev ah:CT SI:=.int .i64
abbrev bC:CT SI:=.st SI.Rule
abbrev bH:CT SI:=.st SI.Def
abbrev bB:CT SI:=.st SI.Table
abbrev bJ:CT SI:=.st SI.Zone
abbrev bR:CT SI:=.st SI.Cap
abbrev bg:CT SI:=.st SI.gi
abbrev bL:CT SI:=.st SI.View
abbrev aB:CT SI:=.st SI.mC
abbrev fM:CT SI:=.st SI.Lot
abbrev iQ:CT SI:=.st SI.ur
abbrev dR:CT SI:=.st SI.kw
abbrev aI:CT SI:=.st SI.jz
abbrev aL(f:Nat)(s:cp xx):Prop:=AK Tryz.prog f s
abbrev gT:=(List eT)×(List dx)×(List dN)×(List bK)×(List gD)×(List fA)×(List cZ)×Int×(List aA)×(List aJ)
end Go.Proofs
