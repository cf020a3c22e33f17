import Derived.Test.YtdgllbifeebppaaGreatH1
import Derived.Test.YtdgllbifeebppaaGreatChecked
namespace Go.Proofs
open Go.Gb Go.RowKit
structure cu where
 op:Int
 n:Int
 s:ByteArray
 key:ByteArray
 args:(List cu)
mutual
def qY:cu->List Tree
 |⟨f0,f1,f2,f3,f4⟩=>[.sc (.int .i64 f0),.sc (.int .i64 f1),.sc (.string f2),.sc (.string f3),.sl (sW f4)]
def sW:List cu->List (List Tree)
 |[]=>[]
 |x::xs=>qY x::sW xs
end
theorem sZ:∀l:U cu,sW l=l.map qY
 |[]=>rfl
 |x::xs=>by rw[sW,sZ xs];rfl
theorem WN(x:cu):qY x=[.sc (.int .i64 x.op),.sc (.int .i64 x.n),.sc (.string x.s),.sc (.string x.key),.sl (x.args.map qY)]:=by cases x;simp only[qY,sZ]
structure bP where
 name:ByteArray
 zones:(List ByteArray)
 except:(List ByteArray)
 from_:Int
 cP:Int
 zr:Int
 vary:Bool
 kind:Int
 ld:Int
 mL:Int
 mC:ByteArray
 j8:ByteArray
 ga:(List cu)
 ir:Int
 iu:Int
 j9:Int
 ka:Int
 uses:Int
 other:Int
 n:Int
def tq(x:bP):U Tree:=[.sc (.string x.name),.sl (x.zones.map (λ y=>[.sc (.string y)])),.sl (x.except.map (λ y=>[.sc (.string y)])),.sc (.int .i64 x.from_),.sc (.int .i64 x.cP),.sc (.int .i64 x.zr),.sc (.bool x.vary),.sc (.int .i64 x.kind),.sc (.int .i64 x.ld),.sc (.int .i64 x.mL),.sc (.string x.mC),.sc (.string x.j8),.sl (x.ga.map qY),.sc (.int .i64 x.ir),.sc (.int .i64 x.iu),.sc (.int .i64 x.j9),.sc (.int .i64 x.ka),.sc (.int .i64 x.uses),.sc (.int .i64 x.other),.sc (.int .i64 x.n)]
structure eu where
 name:ByteArray
 i9:Int
 lR:Int
 k5:ByteArray
 iS:ByteArray
 eK:(List cu)
def Bj(x:eu):U Tree:=[.sc (.string x.name),.sc (.int .i64 x.i9),.sc (.int .i64 x.lR),.sc (.string x.k5),.sc (.string x.iS),.sl (x.eK.map qY)]
structure bW where
 name:ByteArray
 n:Int
 deriving DecidableEq,Inhabited
def CW(x:bW):U Tree:=[.sc (.string x.name),.sc (.int .i64 x.n)]
structure cZ where
 name:ByteArray
 rows:(List bW)
 sn:Int
 deriving DecidableEq,Inhabited
def CX(x:cZ):U Tree:=[.sc (.string x.name),.sl (x.rows.map CW),.sc (.int .i64 x.sn)]
structure bT where
 x:Int
 y:Int
 deriving DecidableEq,Inhabited
def WO(x:bT):U Tree:=[.sc (.int .i64 x.x),.sc (.int .i64 x.y)]
structure dL where
 name:ByteArray
 overlay:Bool
 corners:(List bT)
 deriving DecidableEq,Inhabited
def JN(x:dL):U Tree:=[.sc (.string x.name),.sc (.bool x.overlay),.sl (x.corners.map WO)]
structure gq where
 name:ByteArray
 load:Int
 limit:Int
 corners:(List bT)
 deriving DecidableEq,Inhabited
def Qa(x:gq):U Tree:=[.sc (.string x.name),.sc (.int .i64 x.load),.sc (.int .i64 x.limit),.sl (x.corners.map WO)]
structure cB where
 x:Int
 y:Int
 z:Int
 deriving DecidableEq,Inhabited
def uW(x:cB):U Tree:=[.sc (.int .i64 x.x),.sc (.int .i64 x.y),.sc (.int .i64 x.z)]
structure fu where
 name:ByteArray
 z6:Int
 zE:Int
 zz:Int
 least:Int
 targets:(List cB)
 deriving DecidableEq,Inhabited
def JO(x:fu):U Tree:=[.sc (.string x.name),.sc (.int .i64 x.z6),.sc (.int .i64 x.zE),.sc (.int .i64 x.zz),.sc (.int .i64 x.least),.sl (x.targets.map uW)]
structure ax where
 x0:Int
 y0:Int
 x1:Int
 y1:Int
 deriving DecidableEq,Inhabited
def JP(x:ax):U Tree:=[.sc (.int .i64 x.x0),.sc (.int .i64 x.y0),.sc (.int .i64 x.x1),.sc (.int .i64 x.y1)]
structure dn where
 id:Int
 owner:Int
 area:(List ax)
 from_:(List Int)
 deriving DecidableEq,Inhabited
def Il(x:dn):U Tree:=[.sc (.int .i64 x.id),.sc (.int .i64 x.owner),.sl (x.area.map JP),.sl (x.from_.map (λ y=>[.sc (.int .i64 y)]))]
structure kM where
 lot:Int
 area:(List ax)
 top:Int
 deriving DecidableEq,Inhabited
def Ai(x:kM):U Tree:=[.sc (.int .i64 x.lot),.sl (x.area.map JP),.sc (.int .i64 x.top)]
structure ND where
 lot:Int
 tf:Int
 te:Int
 Jn:Int
 deriving DecidableEq,Inhabited
def JQ(x:ND):U Tree:=[.sc (.int .i64 x.lot),.sc (.int .i64 x.tf),.sc (.int .i64 x.te),.sc (.int .i64 x.Jn)]
structure jd where
 lot:Int
 ez:Int
 ev:Int
 ey:Int
 er:Int
 lv:Int
 lr:Int
 fm:Int
 mi:Int
 mj:Bool
 deriving DecidableEq,Inhabited
def JR(x:jd):U Tree:=[.sc (.int .i64 x.lot),.sc (.int .i64 x.ez),.sc (.int .i64 x.ev),.sc (.int .i64 x.ey),.sc (.int .i64 x.er),.sc (.int .i64 x.lv),.sc (.int .i64 x.lr),.sc (.int .i64 x.fm),.sc (.int .i64 x.mi),.sc (.bool x.mj)]
structure bU where
 cm:(List eu)
 br:(List cZ)
 bu:(List dL)
 az:(List bP)
 cw:(List gq)
 b9:(List fu)
 cE:(List cB)
 ca:Int
 land:(List dn)
 cx:(List kM)
 windows:(List ND)
 built:(List jd)
 base:(List bW)
def JS(x:bU):U Tree:=[.sl (x.cm.map Bj),.sl (x.br.map CX),.sl (x.bu.map JN),.sl (x.az.map tq),.sl (x.cw.map Qa),.sl (x.b9.map JO),.sl (x.cE.map uW),.sc (.int .i64 x.ca),.sl (x.land.map Il),.sl (x.cx.map Ai),.sl (x.windows.map JQ),.sl (x.built.map JR),.sl (x.base.map CW)]
structure o8 where
 defs:(List eu)
 uses:(List (List Int))
def al4(x:o8):U Tree:=[.sl (x.defs.map Bj),.sl (x.uses.map (λ y=>[.sl (y.map (λ y=>[.sc (.int .i64 y)]))]))]
structure bQ where
 defs:(List eu)
 tables:(List cZ)
 zones:(List dL)
 rules:(List bP)
 caps:(List gq)
 views:(List fu)
 ut:(List cB)
 hours:Int
def aoc(x:bQ):U Tree:=[.sl (x.defs.map Bj),.sl (x.tables.map CX),.sl (x.zones.map JN),.sl (x.rules.map tq),.sl (x.caps.map Qa),.sl (x.views.map JO),.sl (x.ut.map uW),.sc (.int .i64 x.hours)]
structure jq where
 l4:Int
 pN:Int
 mw:Int
 uc:Int
 deriving DecidableEq,Inhabited
def aod(x:jq):U Tree:=[.sc (.int .i64 x.l4),.sc (.int .i64 x.pN),.sc (.int .i64 x.mw),.sc (.int .i64 x.uc)]
structure j5 where
 cp:(List eu)
 b8:(List cZ)
 b7:(List dL)
 ci:(List bP)
 ct:(List gq)
 cg:(List fu)
 cD:(List cB)
 cj:Int
 eV:(List dn)
 da:(List kM)
 d6:(List ND)
 dp:(List jd)
 eW:(List bW)
 day:Int
def agR(x:j5):U Tree:=[.sl (x.cp.map Bj),.sl (x.b8.map CX),.sl (x.b7.map JN),.sl (x.ci.map tq),.sl (x.ct.map Qa),.sl (x.cg.map JO),.sl (x.cD.map uW),.sc (.int .i64 x.cj),.sl (x.eV.map Il),.sl (x.da.map Ai),.sl (x.d6.map JQ),.sl (x.dp.map JR),.sl (x.eW.map CW),.sc (.int .i64 x.day)]
structure aS where
 kind:Int
 lot:Int
 names:(List ByteArray)
 lh:Int
 lf:Int
 ij:Int
 i8:Int
 tf:Int
 te:Int
 deriving DecidableEq,Inhabited
def agS(x:aS):U Tree:=[.sc (.int .i64 x.kind),.sc (.int .i64 x.lot),.sl (x.names.map (λ y=>[.sc (.string y)])),.sc (.int .i64 x.lh),.sc (.int .i64 x.lf),.sc (.int .i64 x.ij),.sc (.int .i64 x.i8),.sc (.int .i64 x.tf),.sc (.int .i64 x.te)]
structure aO where
 from_:Int
 to:Int
 deriving DecidableEq,Inhabited
def aiG(x:aO):U Tree:=[.sc (.int .i64 x.from_),.sc (.int .i64 x.to)]
structure bZ where
 x0:Int
 x1:Int
 column:(List aO)
 deriving DecidableEq,Inhabited
def al5(x:bZ):U Tree:=[.sc (.int .i64 x.x0),.sc (.int .i64 x.x1),.sl (x.column.map aiG)]
structure bB where
 lot:Int
 use:Int
 floors:Int
 iv:Int
 deriving DecidableEq,Inhabited
def al6(x:bB):U Tree:=[.sc (.int .i64 x.lot),.sc (.int .i64 x.use),.sc (.int .i64 x.floors),.sc (.int .i64 x.iv)]
structure aH where
 bz:Int
 cC:Int
 bx:Int
 cz:Int
 eM:Int
 ep:Int
 use:Int
 units:Int
 extra:Bool
 deriving DecidableEq,Inhabited
def JU(x:aH):U Tree:=[.sc (.int .i64 x.bz),.sc (.int .i64 x.cC),.sc (.int .i64 x.bx),.sc (.int .i64 x.cz),.sc (.int .i64 x.eM),.sc (.int .i64 x.ep),.sc (.int .i64 x.use),.sc (.int .i64 x.units),.sc (.bool x.extra)]
structure tu where
 cM:(List aH)
 gives:(List bW)
 deriving DecidableEq,Inhabited
def WQ(x:tu):U Tree:=[.sl (x.cM.map JU),.sl (x.gives.map CW)]
structure bq where
 lot:Int
 phases:(List tu)
 deriving DecidableEq,Inhabited
def agT(x:bq):U Tree:=[.sc (.int .i64 x.lot),.sl (x.phases.map WQ)]
structure D3 where
 oS:Int
 oE:Int
 oR:Int
 oB:Int
 z0:Int
 z1:Int
 deriving DecidableEq,Inhabited
def apF(x:D3):U Tree:=[.sc (.int .i64 x.oS),.sc (.int .i64 x.oE),.sc (.int .i64 x.oR),.sc (.int .i64 x.oB),.sc (.int .i64 x.z0),.sc (.int .i64 x.z1)]
structure mh where
 cp:(List eu)
 b8:(List cZ)
 b7:(List dL)
 ci:(List bP)
 ct:(List gq)
 cg:(List fu)
 cD:(List cB)
 cj:Int
 eV:(List dn)
 da:(List kM)
 d6:(List ND)
 dp:(List jd)
 eW:(List bW)
 s9:Int
 m4:Int
 kB:(List ax)
 pf:(List Int)
 ee:Int
 iz:(List tu)
 cM:(List aH)
 zones:(List ByteArray)
def al7(x:mh):U Tree:=[.sl (x.cp.map Bj),.sl (x.b8.map CX),.sl (x.b7.map JN),.sl (x.ci.map tq),.sl (x.ct.map Qa),.sl (x.cg.map JO),.sl (x.cD.map uW),.sc (.int .i64 x.cj),.sl (x.eV.map Il),.sl (x.da.map Ai),.sl (x.d6.map JQ),.sl (x.dp.map JR),.sl (x.eW.map CW),.sc (.int .i64 x.s9),.sc (.int .i64 x.m4),.sl (x.kB.map JP),.sl (x.pf.map (λ y=>[.sc (.int .i64 y)])),.sc (.int .i64 x.ee),.sl (x.iz.map WQ),.sl (x.cM.map JU),.sl (x.zones.map (λ y=>[.sc (.string y)]))]
structure ao7 where
 cm:(List eu)
 br:(List cZ)
 bu:(List dL)
 az:(List bP)
 cw:(List gq)
 b9:(List fu)
 cE:(List cB)
 ca:Int
 area:(List ax)
 cM:(List aH)
def aoe(x:ao7):U Tree:=[.sl (x.cm.map Bj),.sl (x.br.map CX),.sl (x.bu.map JN),.sl (x.az.map tq),.sl (x.cw.map Qa),.sl (x.b9.map JO),.sl (x.cE.map uW),.sc (.int .i64 x.ca),.sl (x.area.map JP),.sl (x.cM.map JU)]
structure JV where
 a0:ByteArray
 a1:ByteArray
 a2:ByteArray
 a3:ByteArray
 a4:ByteArray
 a5:ByteArray
 deriving DecidableEq,Inhabited
def aj4(x:JV):U Tree:=[.sc (.string x.a0),.sc (.string x.a1),.sc (.string x.a2),.sc (.string x.a3),.sc (.string x.a4),.sc (.string x.a5)]
structure fP where
 z0:Int
 z1:Int
 area:(List ax)
 deriving DecidableEq,Inhabited
def aof(x:fP):U Tree:=[.sc (.int .i64 x.z0),.sc (.int .i64 x.z1),.sl (x.area.map JP)]
structure dW where
 side:Int
 base:Int
 num:Int
 den:Int
 deriving DecidableEq,Inhabited
def al8(x:dW):U Tree:=[.sc (.int .i64 x.side),.sc (.int .i64 x.base),.sc (.int .i64 x.num),.sc (.int .i64 x.den)]
structure NE where
 a0:Int
 a1:Int
 a2:Int
 a3:Int
 deriving DecidableEq,Inhabited
def aj5(x:NE):U Tree:=[.sc (.int .i64 x.a0),.sc (.int .i64 x.a1),.sc (.int .i64 x.a2),.sc (.int .i64 x.a3)]
structure lu where
 a0:Int
 a1:Int
 deriving DecidableEq,Inhabited
def aj6(x:lu):U Tree:=[.sc (.int .i64 x.a0),.sc (.int .i64 x.a1)]
inductive SI where
 |Expr
 |Rule
 |Def
 |Entry
 |Table
 |ia
 |Zone
 |Cap
 |gi
 |View
 |my
 |Lot
 |fj
 |Window
 |gj
 |il
 |graph
 |ue
 |side
 |ii
 |Finding
 |span
 |strip
 |kw
 |jz
 |Phase
 |ef
 |E7
 |ky
 |site
 |m8
 |ll
 |gA
 |m9
 |eJ
 deriving DecidableEq
@[reducible] def TT:SI->Type
 | .Expr=>cu
 | .Rule=>bP
 | .Def=>eu
 | .Entry=>bW
 | .Table=>cZ
 | .ia=>bT
 | .Zone=>dL
 | .Cap=>gq
 | .gi=>cB
 | .View=>fu
 | .my=>ax
 | .Lot=>dn
 | .fj=>kM
 | .Window=>ND
 | .gj=>jd
 | .il=>bU
 | .graph=>o8
 | .ue=>bQ
 | .side=>jq
 | .ii=>j5
 | .Finding=>aS
 | .span=>aO
 | .strip=>bZ
 | .kw=>bB
 | .jz=>aH
 | .Phase=>tu
 | .ef=>bq
 | .E7=>D3
 | .ky=>mh
 | .site=>ao7
 | .m8=>JV
 | .ll=>fP
 | .gA=>dW
 | .m9=>NE
 | .eJ=>lu
def aqG:(i:SI)->TT i->U Tree
 | .Expr,x=>qY x
 | .Rule,x=>tq x
 | .Def,x=>Bj x
 | .Entry,x=>CW x
 | .Table,x=>CX x
 | .ia,x=>WO x
 | .Zone,x=>JN x
 | .Cap,x=>Qa x
 | .gi,x=>uW x
 | .View,x=>JO x
 | .my,x=>JP x
 | .Lot,x=>Il x
 | .fj,x=>Ai x
 | .Window,x=>JQ x
 | .gj,x=>JR x
 | .il,x=>JS x
 | .graph,x=>al4 x
 | .ue,x=>aoc x
 | .side,x=>aod x
 | .ii,x=>agR x
 | .Finding,x=>agS x
 | .span,x=>aiG x
 | .strip,x=>al5 x
 | .kw,x=>al6 x
 | .jz,x=>JU x
 | .Phase,x=>WQ x
 | .ef,x=>agT x
 | .E7,x=>apF x
 | .ky,x=>al7 x
 | .site,x=>aoe x
 | .m8,x=>aj4 x
 | .ll,x=>aof x
 | .gA,x=>al8 x
 | .m9,x=>aj5 x
 | .eJ,x=>aj6 x
def se:SE:=⟨SI,inferInstance,TT,aqG⟩
def W5:SI->U (CT SI)
 | .Expr=>[(.int .i64),(.int .i64),.str,.str,(.sl (.st SI.Expr))]
 | .Rule=>[.str,(.sl .str),(.sl .str),(.int .i64),(.int .i64),(.int .i64),.bool,(.int .i64),(.int .i64),(.int .i64),.str,.str,(.sl (.st SI.Expr)),(.int .i64),(.int .i64),(.int .i64),(.int .i64),(.int .i64),(.int .i64),(.int .i64)]
 | .Def=>[.str,(.int .i64),(.int .i64),.str,.str,(.sl (.st SI.Expr))]
 | .Entry=>[.str,(.int .i64)]
 | .Table=>[.str,(.sl (.st SI.Entry)),(.int .i64)]
 | .ia=>[(.int .i64),(.int .i64)]
 | .Zone=>[.str,.bool,(.sl (.st SI.ia))]
 | .Cap=>[.str,(.int .i64),(.int .i64),(.sl (.st SI.ia))]
 | .gi=>[(.int .i64),(.int .i64),(.int .i64)]
 | .View=>[.str,(.int .i64),(.int .i64),(.int .i64),(.int .i64),(.sl (.st SI.gi))]
 | .my=>[(.int .i64),(.int .i64),(.int .i64),(.int .i64)]
 | .Lot=>[(.int .i64),(.int .i64),(.sl (.st SI.my)),(.sl (.int .i64))]
 | .fj=>[(.int .i64),(.sl (.st SI.my)),(.int .i64)]
 | .Window=>[(.int .i64),(.int .i64),(.int .i64),(.int .i64)]
 | .gj=>[(.int .i64),(.int .i64),(.int .i64),(.int .i64),(.int .i64),(.int .i64),(.int .i64),(.int .i64),(.int .i64),.bool]
 | .il=>[(.sl (.st SI.Def)),(.sl (.st SI.Table)),(.sl (.st SI.Zone)),(.sl (.st SI.Rule)),(.sl (.st SI.Cap)),(.sl (.st SI.View)),(.sl (.st SI.gi)),(.int .i64),(.sl (.st SI.Lot)),(.sl (.st SI.fj)),(.sl (.st SI.Window)),(.sl (.st SI.gj)),(.sl (.st SI.Entry))]
 | .graph=>[(.sl (.st SI.Def)),(.sl (.sl (.int .i64)))]
 | .ue=>[(.sl (.st SI.Def)),(.sl (.st SI.Table)),(.sl (.st SI.Zone)),(.sl (.st SI.Rule)),(.sl (.st SI.Cap)),(.sl (.st SI.View)),(.sl (.st SI.gi)),(.int .i64)]
 | .side=>[(.int .i64),(.int .i64),(.int .i64),(.int .i64)]
 | .ii=>[(.sl (.st SI.Def)),(.sl (.st SI.Table)),(.sl (.st SI.Zone)),(.sl (.st SI.Rule)),(.sl (.st SI.Cap)),(.sl (.st SI.View)),(.sl (.st SI.gi)),(.int .i64),(.sl (.st SI.Lot)),(.sl (.st SI.fj)),(.sl (.st SI.Window)),(.sl (.st SI.gj)),(.sl (.st SI.Entry)),(.int .i64)]
 | .Finding=>[(.int .i64),(.int .i64),(.sl .str),(.int .i64),(.int .i64),(.int .i64),(.int .i64),(.int .i64),(.int .i64)]
 | .span=>[(.int .i64),(.int .i64)]
 | .strip=>[(.int .i64),(.int .i64),(.sl (.st SI.span))]
 | .kw=>[(.int .i64),(.int .i64),(.int .i64),(.int .i64)]
 | .jz=>[(.int .i64),(.int .i64),(.int .i64),(.int .i64),(.int .i64),(.int .i64),(.int .i64),(.int .i64),.bool]
 | .Phase=>[(.sl (.st SI.jz)),(.sl (.st SI.Entry))]
 | .ef=>[(.int .i64),(.sl (.st SI.Phase))]
 | .E7=>[(.int .i64),(.int .i64),(.int .i64),(.int .i64),(.int .i64),(.int .i64)]
 | .ky=>[(.sl (.st SI.Def)),(.sl (.st SI.Table)),(.sl (.st SI.Zone)),(.sl (.st SI.Rule)),(.sl (.st SI.Cap)),(.sl (.st SI.View)),(.sl (.st SI.gi)),(.int .i64),(.sl (.st SI.Lot)),(.sl (.st SI.fj)),(.sl (.st SI.Window)),(.sl (.st SI.gj)),(.sl (.st SI.Entry)),(.int .i64),(.int .i64),(.sl (.st SI.my)),(.sl (.int .i64)),(.int .i64),(.sl (.st SI.Phase)),(.sl (.st SI.jz)),(.sl .str)]
 | .site=>[(.sl (.st SI.Def)),(.sl (.st SI.Table)),(.sl (.st SI.Zone)),(.sl (.st SI.Rule)),(.sl (.st SI.Cap)),(.sl (.st SI.View)),(.sl (.st SI.gi)),(.int .i64),(.sl (.st SI.my)),(.sl (.st SI.jz))]
 | .m8=>[.str,.str,.str,.str,.str,.str]
 | .ll=>[(.int .i64),(.int .i64),(.sl (.st SI.my))]
 | .gA=>[(.int .i64),(.int .i64),(.int .i64),(.int .i64)]
 | .m9=>[(.int .i64),(.int .i64),(.int .i64),(.int .i64)]
 | .eJ=>[(.int .i64),(.int .i64)]
def aqH:(i:SI)->TT i->HL se (W5 i)
 | .Expr,x=>(x.op,x.n,x.s,x.key,x.args,())
 | .Rule,x=>(x.name,x.zones,x.except,x.from_,x.cP,x.zr,x.vary,x.kind,x.ld,x.mL,x.mC,x.j8,x.ga,x.ir,x.iu,x.j9,x.ka,x.uses,x.other,x.n,())
 | .Def,x=>(x.name,x.i9,x.lR,x.k5,x.iS,x.eK,())
 | .Entry,x=>(x.name,x.n,())
 | .Table,x=>(x.name,x.rows,x.sn,())
 | .ia,x=>(x.x,x.y,())
 | .Zone,x=>(x.name,x.overlay,x.corners,())
 | .Cap,x=>(x.name,x.load,x.limit,x.corners,())
 | .gi,x=>(x.x,x.y,x.z,())
 | .View,x=>(x.name,x.z6,x.zE,x.zz,x.least,x.targets,())
 | .my,x=>(x.x0,x.y0,x.x1,x.y1,())
 | .Lot,x=>(x.id,x.owner,x.area,x.from_,())
 | .fj,x=>(x.lot,x.area,x.top,())
 | .Window,x=>(x.lot,x.tf,x.te,x.Jn,())
 | .gj,x=>(x.lot,x.ez,x.ev,x.ey,x.er,x.lv,x.lr,x.fm,x.mi,x.mj,())
 | .il,x=>(x.cm,x.br,x.bu,x.az,x.cw,x.b9,x.cE,x.ca,x.land,x.cx,x.windows,x.built,x.base,())
 | .graph,x=>(x.defs,x.uses,())
 | .ue,x=>(x.defs,x.tables,x.zones,x.rules,x.caps,x.views,x.ut,x.hours,())
 | .side,x=>(x.l4,x.pN,x.mw,x.uc,())
 | .ii,x=>(x.cp,x.b8,x.b7,x.ci,x.ct,x.cg,x.cD,x.cj,x.eV,x.da,x.d6,x.dp,x.eW,x.day,())
 | .Finding,x=>(x.kind,x.lot,x.names,x.lh,x.lf,x.ij,x.i8,x.tf,x.te,())
 | .span,x=>(x.from_,x.to,())
 | .strip,x=>(x.x0,x.x1,x.column,())
 | .kw,x=>(x.lot,x.use,x.floors,x.iv,())
 | .jz,x=>(x.bz,x.cC,x.bx,x.cz,x.eM,x.ep,x.use,x.units,x.extra,())
 | .Phase,x=>(x.cM,x.gives,())
 | .ef,x=>(x.lot,x.phases,())
 | .E7,x=>(x.oS,x.oE,x.oR,x.oB,x.z0,x.z1,())
 | .ky,x=>(x.cp,x.b8,x.b7,x.ci,x.ct,x.cg,x.cD,x.cj,x.eV,x.da,x.d6,x.dp,x.eW,x.s9,x.m4,x.kB,x.pf,x.ee,x.iz,x.cM,x.zones,())
 | .site,x=>(x.cm,x.br,x.bu,x.az,x.cw,x.b9,x.cE,x.ca,x.area,x.cM,())
 | .m8,x=>(x.a0,x.a1,x.a2,x.a3,x.a4,x.a5,())
 | .ll,x=>(x.z0,x.z1,x.area,())
 | .gA,x=>(x.side,x.base,x.num,x.den,())
 | .m9,x=>(x.a0,x.a1,x.a2,x.a3,())
 | .eJ,x=>(x.a0,x.a1,())
def aqi:(i:SI)->HL se (W5 i)->TT i
 | .Expr,h=>⟨h.1,h.2.1,h.2.2.1,h.2.2.2.1,h.2.2.2.2.1⟩
 | .Rule,h=>⟨h.1,h.2.1,h.2.2.1,h.2.2.2.1,h.2.2.2.2.1,h.2.2.2.2.2.1,h.2.2.2.2.2.2.1,h.2.2.2.2.2.2.2.1,h.2.2.2.2.2.2.2.2.1,h.2.2.2.2.2.2.2.2.2.1,h.2.2.2.2.2.2.2.2.2.2.1,h.2.2.2.2.2.2.2.2.2.2.2.1,h.2.2.2.2.2.2.2.2.2.2.2.2.1,h.2.2.2.2.2.2.2.2.2.2.2.2.2.1,h.2.2.2.2.2.2.2.2.2.2.2.2.2.2.1,h.2.2.2.2.2.2.2.2.2.2.2.2.2.2.2.1,h.2.2.2.2.2.2.2.2.2.2.2.2.2.2.2.2.1,h.2.2.2.2.2.2.2.2.2.2.2.2.2.2.2.2.2.1,h.2.2.2.2.2.2.2.2.2.2.2.2.2.2.2.2.2.2.1,h.2.2.2.2.2.2.2.2.2.2.2.2.2.2.2.2.2.2.2.1⟩
 | .Def,h=>⟨h.1,h.2.1,h.2.2.1,h.2.2.2.1,h.2.2.2.2.1,h.2.2.2.2.2.1⟩
 | .Entry,h=>⟨h.1,h.2.1⟩
 | .Table,h=>⟨h.1,h.2.1,h.2.2.1⟩
 | .ia,h=>⟨h.1,h.2.1⟩
 | .Zone,h=>⟨h.1,h.2.1,h.2.2.1⟩
 | .Cap,h=>⟨h.1,h.2.1,h.2.2.1,h.2.2.2.1⟩
 | .gi,h=>⟨h.1,h.2.1,h.2.2.1⟩
 | .View,h=>⟨h.1,h.2.1,h.2.2.1,h.2.2.2.1,h.2.2.2.2.1,h.2.2.2.2.2.1⟩
 | .my,h=>⟨h.1,h.2.1,h.2.2.1,h.2.2.2.1⟩
 | .Lot,h=>⟨h.1,h.2.1,h.2.2.1,h.2.2.2.1⟩
 | .fj,h=>⟨h.1,h.2.1,h.2.2.1⟩
 | .Window,h=>⟨h.1,h.2.1,h.2.2.1,h.2.2.2.1⟩
 | .gj,h=>⟨h.1,h.2.1,h.2.2.1,h.2.2.2.1,h.2.2.2.2.1,h.2.2.2.2.2.1,h.2.2.2.2.2.2.1,h.2.2.2.2.2.2.2.1,h.2.2.2.2.2.2.2.2.1,h.2.2.2.2.2.2.2.2.2.1⟩
 | .il,h=>⟨h.1,h.2.1,h.2.2.1,h.2.2.2.1,h.2.2.2.2.1,h.2.2.2.2.2.1,h.2.2.2.2.2.2.1,h.2.2.2.2.2.2.2.1,h.2.2.2.2.2.2.2.2.1,h.2.2.2.2.2.2.2.2.2.1,h.2.2.2.2.2.2.2.2.2.2.1,h.2.2.2.2.2.2.2.2.2.2.2.1,h.2.2.2.2.2.2.2.2.2.2.2.2.1⟩
 | .graph,h=>⟨h.1,h.2.1⟩
 | .ue,h=>⟨h.1,h.2.1,h.2.2.1,h.2.2.2.1,h.2.2.2.2.1,h.2.2.2.2.2.1,h.2.2.2.2.2.2.1,h.2.2.2.2.2.2.2.1⟩
 | .side,h=>⟨h.1,h.2.1,h.2.2.1,h.2.2.2.1⟩
 | .ii,h=>⟨h.1,h.2.1,h.2.2.1,h.2.2.2.1,h.2.2.2.2.1,h.2.2.2.2.2.1,h.2.2.2.2.2.2.1,h.2.2.2.2.2.2.2.1,h.2.2.2.2.2.2.2.2.1,h.2.2.2.2.2.2.2.2.2.1,h.2.2.2.2.2.2.2.2.2.2.1,h.2.2.2.2.2.2.2.2.2.2.2.1,h.2.2.2.2.2.2.2.2.2.2.2.2.1,h.2.2.2.2.2.2.2.2.2.2.2.2.2.1⟩
 | .Finding,h=>⟨h.1,h.2.1,h.2.2.1,h.2.2.2.1,h.2.2.2.2.1,h.2.2.2.2.2.1,h.2.2.2.2.2.2.1,h.2.2.2.2.2.2.2.1,h.2.2.2.2.2.2.2.2.1⟩
 | .span,h=>⟨h.1,h.2.1⟩
 | .strip,h=>⟨h.1,h.2.1,h.2.2.1⟩
 | .kw,h=>⟨h.1,h.2.1,h.2.2.1,h.2.2.2.1⟩
 | .jz,h=>⟨h.1,h.2.1,h.2.2.1,h.2.2.2.1,h.2.2.2.2.1,h.2.2.2.2.2.1,h.2.2.2.2.2.2.1,h.2.2.2.2.2.2.2.1,h.2.2.2.2.2.2.2.2.1⟩
 | .Phase,h=>⟨h.1,h.2.1⟩
 | .ef,h=>⟨h.1,h.2.1⟩
 | .E7,h=>⟨h.1,h.2.1,h.2.2.1,h.2.2.2.1,h.2.2.2.2.1,h.2.2.2.2.2.1⟩
 | .ky,h=>⟨h.1,h.2.1,h.2.2.1,h.2.2.2.1,h.2.2.2.2.1,h.2.2.2.2.2.1,h.2.2.2.2.2.2.1,h.2.2.2.2.2.2.2.1,h.2.2.2.2.2.2.2.2.1,h.2.2.2.2.2.2.2.2.2.1,h.2.2.2.2.2.2.2.2.2.2.1,h.2.2.2.2.2.2.2.2.2.2.2.1,h.2.2.2.2.2.2.2.2.2.2.2.2.1,h.2.2.2.2.2.2.2.2.2.2.2.2.2.1,h.2.2.2.2.2.2.2.2.2.2.2.2.2.2.1,h.2.2.2.2.2.2.2.2.2.2.2.2.2.2.2.1,h.2.2.2.2.2.2.2.2.2.2.2.2.2.2.2.2.1,h.2.2.2.2.2.2.2.2.2.2.2.2.2.2.2.2.2.1,h.2.2.2.2.2.2.2.2.2.2.2.2.2.2.2.2.2.2.1,h.2.2.2.2.2.2.2.2.2.2.2.2.2.2.2.2.2.2.2.1,h.2.2.2.2.2.2.2.2.2.2.2.2.2.2.2.2.2.2.2.2.1⟩
 | .site,h=>⟨h.1,h.2.1,h.2.2.1,h.2.2.2.1,h.2.2.2.2.1,h.2.2.2.2.2.1,h.2.2.2.2.2.2.1,h.2.2.2.2.2.2.2.1,h.2.2.2.2.2.2.2.2.1,h.2.2.2.2.2.2.2.2.2.1⟩
 | .m8,h=>⟨h.1,h.2.1,h.2.2.1,h.2.2.2.1,h.2.2.2.2.1,h.2.2.2.2.2.1⟩
 | .ll,h=>⟨h.1,h.2.1,h.2.2.1⟩
 | .gA,h=>⟨h.1,h.2.1,h.2.2.1,h.2.2.2.1⟩
 | .m9,h=>⟨h.1,h.2.1,h.2.2.1,h.2.2.2.1⟩
 | .eJ,h=>⟨h.1,h.2.1⟩
def gvS:Nat->J ((c:CT SI)×CT.T se c):=λ_=>none
def xx:SX:={ toSE:=se,c7:=W5,get:=aqH,make:=aqi,ml:=by intro i x;cases i<;>first |rfl |exact WN _,gx:=by intro i h;cases i<;>first |rfl |exact WN _,flat:=by intro i;cases i<;>rfl,gv:=gvS,zp:=λ_=>rfl }
abbrev df:Value:=.slice none 0 0
abbrev dC:Value:=.int .i64 0
abbrev Hh:Value:=.bool false
abbrev mf:Value:=.string ⟨#[]⟩
def tab:U (TypeId×nq):=[
 (2,⟨1,8,false,[dC],.int .i64,[]⟩),
 (3,⟨1,8,false,[dC],.int .i64,[]⟩),
 (4,⟨1,1,false,[Hh],.bool,[]⟩),
 (9,⟨1,16,false,[mf],.str,[]⟩),
 (22,⟨1,24,false,[df],.slice 67,[]⟩),
 (23,⟨1,24,false,[df],.slice 95,[]⟩),
 (24,⟨1,24,false,[df],.slice 90,[]⟩),
 (25,⟨1,24,false,[df],.slice 54,[]⟩),
 (26,⟨1,24,false,[df],.slice 97,[]⟩),
 (27,⟨1,24,false,[df],.slice 397,[]⟩),
 (28,⟨1,24,false,[df],.slice 395,[]⟩),
 (30,⟨8,176,true,[df,df,df,df,df,df,df,dC],.struct [(0,22),(1,23),(2,24),(3,25),(4,26),(5,27),(6,28),(7,3)],[]⟩),
 (31,⟨1,24,false,[df],.slice 73,[]⟩),
 (32,⟨1,24,false,[df],.slice 75,[]⟩),
 (33,⟨1,24,false,[df],.slice 399,[]⟩),
 (34,⟨1,24,false,[df],.slice 252,[]⟩),
 (35,⟨1,24,false,[df],.slice 232,[]⟩),
 (37,⟨13,296,true,[df,df,df,df,df,df,df,dC,df,df,df,df,df],.struct [(0,30),(8,31),(9,32),(10,33),(11,34),(12,35)],[]⟩),
 (40,⟨1,24,false,[df],.slice 60,[]⟩),
 (47,⟨1,24,false,[df],.slice 49,[]⟩),
 (49,⟨5,72,true,[dC,dC,mf,mf,df],.struct [(0,3),(1,3),(2,9),(3,9),(4,47)],[]⟩),
 (50,⟨1,24,false,[df],.slice 9,[]⟩),
 (52,⟨4,32,true,[dC,dC,dC,dC],.struct [(0,3),(1,3),(2,3),(3,3)],[0,0,0,0]⟩),
 (54,⟨20,232,true,[mf,df,df,dC,dC,dC,Hh,dC,dC,dC,mf,mf,df,dC,dC,dC,dC,dC,dC,dC],.struct [(0,9),(1,50),(2,50),(3,3),(4,3),(5,3),(6,4),(7,3),(8,49),(13,52),(17,3),(18,3),(19,3)],[]⟩),
 (56,⟨4,32,true,[dC,dC,dC,dC],.struct [(0,3),(1,3),(2,3),(3,3)],[0,0,0,0]⟩),
 (58,⟨2,16,true,[dC,dC],.struct [(0,3),(1,3)],[0,0]⟩),
 (60,⟨9,88,true,[dC,dC,df,dC,dC,dC,dC,dC,dC],.struct [(0,3),(1,3),(2,50),(3,56),(7,58)],[]⟩),
 (67,⟨6,88,true,[mf,dC,dC,mf,mf,df],.struct [(0,9),(1,49)],[]⟩),
 (70,⟨1,24,false,[df],.slice 92,[]⟩),
 (71,⟨1,24,false,[df],.slice 3,[]⟩),
 (73,⟨4,64,true,[dC,dC,df,df],.struct [(0,3),(1,3),(2,70),(3,71)],[]⟩),
 (75,⟨3,40,true,[dC,df,dC],.struct [(0,3),(1,70),(2,3)],[]⟩),
 (77,⟨14,304,true,[df,df,df,df,df,df,df,dC,df,df,df,df,df,dC],.struct [(0,37),(13,3)],[]⟩),
 (79,⟨1,8,false,[.map none],.map 3 4,[]⟩),
 (86,⟨1,24,false,[df],.slice 56,[]⟩),
 (88,⟨1,24,false,[df],.slice 58,[]⟩),
 (90,⟨3,48,true,[mf,Hh,df],.struct [(0,9),(1,4),(2,88)],[]⟩),
 (92,⟨4,32,true,[dC,dC,dC,dC],.struct [(0,3),(1,3),(2,3),(3,3)],[0,0,0,0]⟩),
 (95,⟨3,48,true,[mf,df,dC],.struct [(0,9),(1,35),(2,3)],[]⟩),
 (97,⟨4,56,true,[mf,dC,dC,df],.struct [(0,9),(1,3),(2,3),(3,88)],[]⟩),
 (109,⟨1,24,false,[df],.slice 197,[]⟩),
 (111,⟨2,32,true,[dC,df],.struct [(0,3),(1,109)],[]⟩),
 (116,⟨1,8,false,[.map none],.map 119 3,[]⟩),
 (119,⟨2,16,true,[dC,dC],.arr 2 3,[]⟩),
 (120,⟨1,8,false,[.nilFunc],.other,[]⟩),
 (126,⟨1,8,false,[.map none],.map 9 4,[]⟩),
 (131,⟨1,24,false,[df],.slice 70,[]⟩),
 (137,⟨1,24,false,[df],.slice 149,[]⟩),
 (139,⟨21,440,true,[df,df,df,df,df,df,df,dC,df,df,df,df,df,dC,dC,df,df,dC,df,df,df],.struct [(0,37),(13,73),(17,111),(19,137),(20,50)],[]⟩),
 (147,⟨6,48,true,[dC,dC,dC,dC,dC,dC],.struct [(0,92),(4,3),(5,3)],[]⟩),
 (149,⟨9,72,true,[dC,dC,dC,dC,dC,dC,dC,dC,Hh],.struct [(0,147),(6,3),(7,3),(8,4)],[]⟩),
 (151,⟨1,24,false,[df],.slice 194,[]⟩),
 (163,⟨1,8,false,[.int .u64 0],.int .u64,[]⟩),
 (167,⟨1,8,false,[.map none],.map 9 3,[]⟩),
 (168,⟨1,24,false,[df],.slice 71,[]⟩),
 (170,⟨2,48,true,[df,df],.struct [(0,22),(1,168)],[]⟩),
 (174,⟨1,24,false,[df],.slice 4,[]⟩),
 (188,⟨1,24,false,[df],.slice 52,[]⟩),
 (194,⟨3,40,true,[dC,dC,df],.struct [(0,3),(1,3),(2,70)],[]⟩),
 (197,⟨2,48,true,[df,df],.struct [(0,137),(1,35)],[]⟩),
 (224,⟨1,24,false,[df],.slice 227,[]⟩),
 (227,⟨4,32,true,[dC,dC,dC,dC],.struct [(0,58),(2,58)],[]⟩),
 (232,⟨2,24,true,[mf,dC],.struct [(0,9),(1,3)],[2,0]⟩),
 (237,⟨10,208,true,[df,df,df,df,df,df,df,dC,.map none,df],.struct [(0,30),(8,167),(9,50)],[]⟩),
 (240,⟨1,8,false,[.pointer none],.other,[]⟩),
 (242,⟨10,224,true,[df,df,df,df,df,df,df,dC,df,df],.struct [(0,30),(8,70),(9,137)],[]⟩),
 (244,⟨1,8,false,[.nilFunc],.other,[]⟩),
 (246,⟨2,24,true,[mf,.nilFunc],.struct [(0,9),(1,244)],[]⟩),
 (247,⟨18,216,true,[mf,.nilFunc,mf,.nilFunc,mf,.nilFunc,mf,.nilFunc,mf,.nilFunc,mf,.nilFunc,mf,.nilFunc,mf,.nilFunc,mf,.nilFunc],.arr 9 246,[]⟩),
 (252,⟨10,80,true,[dC,dC,dC,dC,dC,dC,dC,dC,dC,Hh],.struct [(0,3),(1,149)],[]⟩),
 (258,⟨1,24,false,[df],.slice 262,[]⟩),
 (260,⟨1,24,false,[df],.slice 305,[]⟩),
 (262,⟨3,40,true,[dC,dC,df],.struct [(0,3),(1,3),(2,260)],[]⟩),
 (305,⟨2,16,true,[dC,dC],.struct [(0,3),(1,3)],[0,0]⟩),
 (333,⟨4,32,true,[dC,dC,dC,dC],.arr 4 3,[]⟩),
 (338,⟨1,24,false,[df],.slice 260,[]⟩),
 (360,⟨6,96,true,[mf,mf,mf,mf,mf,mf],.arr 6 9,[]⟩),
 (395,⟨3,24,true,[dC,dC,dC],.struct [(0,3),(1,3),(2,3)],[0,0,0]⟩),
 (397,⟨6,72,true,[mf,dC,dC,dC,dC,df],.struct [(0,9),(1,395),(4,3),(5,28)],[]⟩),
 (399,⟨4,32,true,[dC,dC,dC,dC],.struct [(0,3),(1,395)],[]⟩)]
def aqj:U (TypeId×CT SI):=[(3,(.int .i64)),(4,.bool),(9,.str),(49,(.st SI.Expr)),(52,(.st SI.gA)),(54,(.st SI.Rule)),(56,(.st SI.kw)),(58,(.st SI.ia)),(60,(.st SI.Finding)),(67,(.st SI.Def)),(70,(.sl (.st SI.my))),(73,(.st SI.Lot)),(90,(.st SI.Zone)),(92,(.st SI.my)),(119,(.st SI.eJ)),(149,(.st SI.jz)),(194,(.st SI.ll)),(197,(.st SI.Phase)),(227,(.st SI.side)),(232,(.st SI.Entry)),(260,(.sl (.st SI.span))),(262,(.st SI.strip)),(305,(.st SI.span))]
def ao8:TypeId->J (CT xx.ι):=lk aqj
theorem O2:fe Tryz.prog (Rv tab):=ald (by kernel_rfl)
theorem mixed:Tryz.prog.follows .mixedOrders=true:=Checked.mixed Tryz.checked
theorem cq{f:FuncId}{fn:Func}{l:U (FuncId×co xx)}(hΓ:sL Tryz.prog (xr l))(hfn:Tryz.prog.funcs[f]? =some fn){s:co xx}(h:Hn SI)(n:Nat)
 (hq : (fn.body.isSome && !(fn.name == "runtime.NumGoroutine") && decide (s.args.length <= fn.ntmps /\ qm s.args <= 1000 /\ (s.res.filter RT.out).length = qm s.args)) = true := by kernel_rfl) (hg : s.gen = none := by rfl)
 (hr:∀a,run (xr l) (Rv tab) ao8 fn.ntmps n (fn.body.getD .skip) (sJ xx s.res) h (xf s.args a) (aqa (Rv tab) fn.results.toList s.res)=s.fn a:=by intro _;kernel_rfl):AN Tryz.prog f s:=by
 rw[aL,aL]at hq;obtain⟨⟨q1,q2⟩,q3⟩:=hq;have hb:fn.body=some (fn.body.getD .skip):=by
  cases hc:fn.body with
  |none=>rw[hc]at q1;cases q1
  |some c=>rfl
 have hn : (fn.name == "runtime.NumGoroutine") = false := by simpa using q2
 exact An (ni hfn hb hn) (λ a _ e=>aqb O2 mixed hΓ hfn hb hn _ _ (of_decide_eq_true q3) h n ((hr a).trans e)) hg
theorem oA{f:FuncId}{fn:Func}{l:U (FuncId×co xx)}(hΓ:sL Tryz.prog (xr l))(hfn:Tryz.prog.funcs[f]? =some fn){g:dg xx}(h:Hn SI)(n:Nat)
 (hq : (fn.body.isSome && !(fn.name == "runtime.NumGoroutine") && decide (g.pL.length <= fn.ntmps) && g.A6) = true)
 (hr:∀v,run (xr l) (Rv tab) ao8 fn.ntmps n (fn.body.getD .skip) (VT (X:=xx) (Ah g).vars) h (GG g v) (ao4 (Rv tab) fn.results.toList g)=g.fn v):AN Tryz.prog f ⟨[],[.d .bool],λ_=>none,some g⟩:=by
 rw[aL,aL,aL]at hq;obtain⟨⟨⟨q1,q2⟩,q3⟩,q4⟩:=hq;have hb:fn.body=some (fn.body.getD .skip):=by
  cases hc:fn.body with
  |none=>rw[hc]at q1;cases q1
  |some c=>rfl
 have hn : (fn.name == "runtime.NumGoroutine") = false := by simpa using q2
 exact MY (ni hfn hb hn) (apu O2 mixed hΓ hfn hb hn g (of_decide_eq_true q3) q4 h n (λ v _ e=>(hr v).trans e))
theorem gcn:sL Tryz.prog (xr ([]:U (FuncId×co xx))):=aB
abbrev ah:CT SI:=.int .i64
abbrev bn:CT SI:=.st SI.Rule
abbrev bE:CT SI:=.st SI.Def
abbrev bg:CT SI:=.st SI.Table
abbrev bH:CT SI:=.st SI.Zone
abbrev bL:CT SI:=.st SI.Cap
abbrev aZ:CT SI:=.st SI.gi
abbrev bI:CT SI:=.st SI.View
abbrev ay:CT SI:=.st SI.my
abbrev gG:CT SI:=.st SI.Lot
abbrev iO:CT SI:=.st SI.ue
abbrev eH:CT SI:=.st SI.kw
abbrev aG:CT SI:=.st SI.jz
abbrev aJ(f:Nat)(s:co xx):Prop:=AN Tryz.prog f s
abbrev gM:=(List eu)×(List cZ)×(List dL)×(List bP)×(List gq)×(List fu)×(List cB)×Int×(List ax)×(List aH)
end Go.Proofs
