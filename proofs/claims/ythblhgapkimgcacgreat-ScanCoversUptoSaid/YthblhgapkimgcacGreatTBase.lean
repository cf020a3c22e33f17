import Derived.Test.YthblhgapkimgcacGreatH1
import Derived.Test.YthblhgapkimgcacGreatChecked
namespace Go.Proofs
open Go.Gb Go.RowKit
structure cB where
 op:Int
 n:Int
 s:ByteArray
 key:ByteArray
 args:(List cB)
mutual
def qY:cB->List Tree
 |⟨f0,f1,f2,f3,f4⟩=>[.sc (.int .i64 f0),.sc (.int .i64 f1),.sc (.string f2),.sc (.string f3),.sl (tu f4)]
def tu:List cB->List (List Tree)
 |[]=>[]
 |x::xs=>qY x::tu xs
end
theorem tC:∀l:U cB,tu l=l.map qY
 |[]=>rfl
 |x::xs=>by rw[tu,tC xs];rfl
theorem WX(x:cB):qY x=[.sc (.int .i64 x.op),.sc (.int .i64 x.n),.sc (.string x.s),.sc (.string x.key),.sl (x.args.map qY)]:=by cases x;simp only[qY,tC]
structure bI where
 name:ByteArray
 zones:(List ByteArray)
 except:(List ByteArray)
 from_:Int
 js:Int
 zd:Int
 vary:Bool
 kind:Int
 lf:Int
 mC:Int
 mA:ByteArray
 ke:ByteArray
 gd:(List cB)
 iv:Int
 ix:Int
 kf:Int
 kh:Int
 uses:Int
 other:Int
 n:Int
def vH(x:bI):U Tree:=[.sc (.string x.name),.sl (x.zones.map (λ y=>[.sc (.string y)])),.sl (x.except.map (λ y=>[.sc (.string y)])),.sc (.int .i64 x.from_),.sc (.int .i64 x.js),.sc (.int .i64 x.zd),.sc (.bool x.vary),.sc (.int .i64 x.kind),.sc (.int .i64 x.lf),.sc (.int .i64 x.mC),.sc (.string x.mA),.sc (.string x.ke),.sl (x.gd.map qY),.sc (.int .i64 x.iv),.sc (.int .i64 x.ix),.sc (.int .i64 x.kf),.sc (.int .i64 x.kh),.sc (.int .i64 x.uses),.sc (.int .i64 x.other),.sc (.int .i64 x.n)]
structure eu where
 name:ByteArray
 jn:Int
 lR:Int
 k7:ByteArray
 i8:ByteArray
 eL:(List cB)
def Bh(x:eu):U Tree:=[.sc (.string x.name),.sc (.int .i64 x.jn),.sc (.int .i64 x.lR),.sc (.string x.k7),.sc (.string x.i8),.sl (x.eL.map qY)]
structure bW where
 name:ByteArray
 n:Int
 deriving DecidableEq,Inhabited
def CV(x:bW):U Tree:=[.sc (.string x.name),.sc (.int .i64 x.n)]
structure dh where
 name:ByteArray
 rows:(List bW)
 sm:Int
 deriving DecidableEq,Inhabited
def CW(x:dh):U Tree:=[.sc (.string x.name),.sl (x.rows.map CV),.sc (.int .i64 x.sm)]
structure bV where
 x:Int
 y:Int
 deriving DecidableEq,Inhabited
def WY(x:bV):U Tree:=[.sc (.int .i64 x.x),.sc (.int .i64 x.y)]
structure dJ where
 name:ByteArray
 overlay:Bool
 corners:(List bV)
 deriving DecidableEq,Inhabited
def JQ(x:dJ):U Tree:=[.sc (.string x.name),.sc (.bool x.overlay),.sl (x.corners.map WY)]
structure gq where
 name:ByteArray
 load:Int
 limit:Int
 corners:(List bV)
 deriving DecidableEq,Inhabited
def Qc(x:gq):U Tree:=[.sc (.string x.name),.sc (.int .i64 x.load),.sc (.int .i64 x.limit),.sl (x.corners.map WY)]
structure cu where
 x:Int
 y:Int
 z:Int
 deriving DecidableEq,Inhabited
def u6(x:cu):U Tree:=[.sc (.int .i64 x.x),.sc (.int .i64 x.y),.sc (.int .i64 x.z)]
structure fq where
 name:ByteArray
 zt:Int
 zr:Int
 zp:Int
 least:Int
 targets:(List cu)
 deriving DecidableEq,Inhabited
def JR(x:fq):U Tree:=[.sc (.string x.name),.sc (.int .i64 x.zt),.sc (.int .i64 x.zr),.sc (.int .i64 x.zp),.sc (.int .i64 x.least),.sl (x.targets.map u6)]
structure ax where
 x0:Int
 y0:Int
 x1:Int
 y1:Int
 deriving DecidableEq,Inhabited
def JS(x:ax):U Tree:=[.sc (.int .i64 x.x0),.sc (.int .i64 x.y0),.sc (.int .i64 x.x1),.sc (.int .i64 x.y1)]
structure cK where
 id:Int
 owner:Int
 area:(List ax)
 from_:(List Int)
 deriving DecidableEq,Inhabited
def Iq(x:cK):U Tree:=[.sc (.int .i64 x.id),.sc (.int .i64 x.owner),.sl (x.area.map JS),.sl (x.from_.map (λ y=>[.sc (.int .i64 y)]))]
structure kM where
 lot:Int
 area:(List ax)
 top:Int
 deriving DecidableEq,Inhabited
def Af(x:kM):U Tree:=[.sc (.int .i64 x.lot),.sl (x.area.map JS),.sc (.int .i64 x.top)]
structure NE where
 lot:Int
 td:Int
 tc:Int
 I3:Int
 deriving DecidableEq,Inhabited
def JU(x:NE):U Tree:=[.sc (.int .i64 x.lot),.sc (.int .i64 x.td),.sc (.int .i64 x.tc),.sc (.int .i64 x.I3)]
structure jd where
 lot:Int
 eC:Int
 ey:Int
 ez:Int
 ev:Int
 lr:Int
 lp:Int
 fp:Int
 mi:Int
 mj:Bool
 deriving DecidableEq,Inhabited
def JV(x:jd):U Tree:=[.sc (.int .i64 x.lot),.sc (.int .i64 x.eC),.sc (.int .i64 x.ey),.sc (.int .i64 x.ez),.sc (.int .i64 x.ev),.sc (.int .i64 x.lr),.sc (.int .i64 x.lp),.sc (.int .i64 x.fp),.sc (.int .i64 x.mi),.sc (.bool x.mj)]
structure bR where
 cm:(List eu)
 br:(List dh)
 bu:(List dJ)
 az:(List bI)
 cx:(List gq)
 b9:(List fq)
 cE:(List cu)
 ca:Int
 land:(List cK)
 co:(List kM)
 windows:(List NE)
 built:(List jd)
 base:(List bW)
def JW(x:bR):U Tree:=[.sl (x.cm.map Bh),.sl (x.br.map CW),.sl (x.bu.map JQ),.sl (x.az.map vH),.sl (x.cx.map Qc),.sl (x.b9.map JR),.sl (x.cE.map u6),.sc (.int .i64 x.ca),.sl (x.land.map Iq),.sl (x.co.map Af),.sl (x.windows.map JU),.sl (x.built.map JV),.sl (x.base.map CV)]
structure o9 where
 defs:(List eu)
 uses:(List (List Int))
def al3(x:o9):U Tree:=[.sl (x.defs.map Bh),.sl (x.uses.map (λ y=>[.sl (y.map (λ y=>[.sc (.int .i64 y)]))]))]
structure bS where
 defs:(List eu)
 tables:(List dh)
 zones:(List dJ)
 rules:(List bI)
 caps:(List gq)
 views:(List fq)
 uk:(List cu)
 hours:Int
def aoa(x:bS):U Tree:=[.sl (x.defs.map Bh),.sl (x.tables.map CW),.sl (x.zones.map JQ),.sl (x.rules.map vH),.sl (x.caps.map Qc),.sl (x.views.map JR),.sl (x.uk.map u6),.sc (.int .i64 x.hours)]
structure jr where
 l4:Int
 pN:Int
 mw:Int
 ua:Int
 deriving DecidableEq,Inhabited
def aoc(x:jr):U Tree:=[.sc (.int .i64 x.l4),.sc (.int .i64 x.pN),.sc (.int .i64 x.mw),.sc (.int .i64 x.ua)]
structure kg where
 ct:(List eu)
 b8:(List dh)
 b7:(List dJ)
 ci:(List bI)
 cw:(List gq)
 cg:(List fq)
 cD:(List cu)
 cj:Int
 eW:(List cK)
 c9:(List kM)
 d5:(List NE)
 dg:(List jd)
 fc:(List bW)
 day:Int
def agX(x:kg):U Tree:=[.sl (x.ct.map Bh),.sl (x.b8.map CW),.sl (x.b7.map JQ),.sl (x.ci.map vH),.sl (x.cw.map Qc),.sl (x.cg.map JR),.sl (x.cD.map u6),.sc (.int .i64 x.cj),.sl (x.eW.map Iq),.sl (x.c9.map Af),.sl (x.d5.map JU),.sl (x.dg.map JV),.sl (x.fc.map CV),.sc (.int .i64 x.day)]
structure aQ where
 kind:Int
 lot:Int
 names:(List ByteArray)
 fx:Int
 ft:Int
 ec:Int
 er:Int
 td:Int
 tc:Int
 deriving DecidableEq,Inhabited
def agY(x:aQ):U Tree:=[.sc (.int .i64 x.kind),.sc (.int .i64 x.lot),.sl (x.names.map (λ y=>[.sc (.string y)])),.sc (.int .i64 x.fx),.sc (.int .i64 x.ft),.sc (.int .i64 x.ec),.sc (.int .i64 x.er),.sc (.int .i64 x.td),.sc (.int .i64 x.tc)]
structure aN where
 from_:Int
 to:Int
 deriving DecidableEq,Inhabited
def aiL(x:aN):U Tree:=[.sc (.int .i64 x.from_),.sc (.int .i64 x.to)]
structure bZ where
 x0:Int
 x1:Int
 column:(List aN)
 deriving DecidableEq,Inhabited
def al4(x:bZ):U Tree:=[.sc (.int .i64 x.x0),.sc (.int .i64 x.x1),.sl (x.column.map aiL)]
structure bB where
 lot:Int
 use:Int
 floors:Int
 iS:Int
 deriving DecidableEq,Inhabited
def al5(x:bB):U Tree:=[.sc (.int .i64 x.lot),.sc (.int .i64 x.use),.sc (.int .i64 x.floors),.sc (.int .i64 x.iS)]
structure aH where
 bz:Int
 cC:Int
 bx:Int
 cz:Int
 eQ:Int
 ep:Int
 use:Int
 units:Int
 extra:Bool
 deriving DecidableEq,Inhabited
def JX(x:aH):U Tree:=[.sc (.int .i64 x.bz),.sc (.int .i64 x.cC),.sc (.int .i64 x.bx),.sc (.int .i64 x.cz),.sc (.int .i64 x.eQ),.sc (.int .i64 x.ep),.sc (.int .i64 x.use),.sc (.int .i64 x.units),.sc (.bool x.extra)]
structure tF where
 cM:(List aH)
 gives:(List bW)
 deriving DecidableEq,Inhabited
def WZ(x:tF):U Tree:=[.sl (x.cM.map JX),.sl (x.gives.map CV)]
structure bn where
 lot:Int
 phases:(List tF)
 deriving DecidableEq,Inhabited
def agZ(x:bn):U Tree:=[.sc (.int .i64 x.lot),.sl (x.phases.map WZ)]
structure D2 where
 oS:Int
 oE:Int
 oR:Int
 oB:Int
 z0:Int
 z1:Int
 deriving DecidableEq,Inhabited
def apD(x:D2):U Tree:=[.sc (.int .i64 x.oS),.sc (.int .i64 x.oE),.sc (.int .i64 x.oR),.sc (.int .i64 x.oB),.sc (.int .i64 x.z0),.sc (.int .i64 x.z1)]
structure l9 where
 ct:(List eu)
 b8:(List dh)
 b7:(List dJ)
 ci:(List bI)
 cw:(List gq)
 cg:(List fq)
 cD:(List cu)
 cj:Int
 eW:(List cK)
 c9:(List kM)
 d5:(List NE)
 dg:(List jd)
 fc:(List bW)
 s7:Int
 mT:Int
 kO:(List ax)
 pf:(List Int)
 ee:Int
 i7:(List tF)
 cM:(List aH)
 zones:(List ByteArray)
def al6(x:l9):U Tree:=[.sl (x.ct.map Bh),.sl (x.b8.map CW),.sl (x.b7.map JQ),.sl (x.ci.map vH),.sl (x.cw.map Qc),.sl (x.cg.map JR),.sl (x.cD.map u6),.sc (.int .i64 x.cj),.sl (x.eW.map Iq),.sl (x.c9.map Af),.sl (x.d5.map JU),.sl (x.dg.map JV),.sl (x.fc.map CV),.sc (.int .i64 x.s7),.sc (.int .i64 x.mT),.sl (x.kO.map JS),.sl (x.pf.map (λ y=>[.sc (.int .i64 y)])),.sc (.int .i64 x.ee),.sl (x.i7.map WZ),.sl (x.cM.map JX),.sl (x.zones.map (λ y=>[.sc (.string y)]))]
structure ao5 where
 cm:(List eu)
 br:(List dh)
 bu:(List dJ)
 az:(List bI)
 cx:(List gq)
 b9:(List fq)
 cE:(List cu)
 ca:Int
 area:(List ax)
 cM:(List aH)
def aod(x:ao5):U Tree:=[.sl (x.cm.map Bh),.sl (x.br.map CW),.sl (x.bu.map JQ),.sl (x.az.map vH),.sl (x.cx.map Qc),.sl (x.b9.map JR),.sl (x.cE.map u6),.sc (.int .i64 x.ca),.sl (x.area.map JS),.sl (x.cM.map JX)]
structure JY where
 a0:ByteArray
 a1:ByteArray
 a2:ByteArray
 a3:ByteArray
 a4:ByteArray
 a5:ByteArray
 deriving DecidableEq,Inhabited
def aj4(x:JY):U Tree:=[.sc (.string x.a0),.sc (.string x.a1),.sc (.string x.a2),.sc (.string x.a3),.sc (.string x.a4),.sc (.string x.a5)]
structure fT where
 z0:Int
 z1:Int
 area:(List ax)
 deriving DecidableEq,Inhabited
def aoe(x:fT):U Tree:=[.sc (.int .i64 x.z0),.sc (.int .i64 x.z1),.sl (x.area.map JS)]
structure dW where
 side:Int
 base:Int
 num:Int
 den:Int
 deriving DecidableEq,Inhabited
def al7(x:dW):U Tree:=[.sc (.int .i64 x.side),.sc (.int .i64 x.base),.sc (.int .i64 x.num),.sc (.int .i64 x.den)]
structure NF where
 a0:Int
 a1:Int
 a2:Int
 a3:Int
 deriving DecidableEq,Inhabited
def aj5(x:NF):U Tree:=[.sc (.int .i64 x.a0),.sc (.int .i64 x.a1),.sc (.int .i64 x.a2),.sc (.int .i64 x.a3)]
structure lu where
 a0:Int
 a1:Int
 deriving DecidableEq,Inhabited
def aj6(x:lu):U Tree:=[.sc (.int .i64 x.a0),.sc (.int .i64 x.a1)]
inductive SI where
 |Expr
 |Rule
 |Def
 |Entry
 |Table
 |ij
 |Zone
 |Cap
 |gx
 |View
 |my
 |Lot
 |fm
 |Window
 |gz
 |kw
 |graph
 |ud
 |side
 |io
 |Finding
 |span
 |strip
 |kx
 |j8
 |Phase
 |ef
 |E2
 |kA
 |site
 |m7
 |lj
 |gO
 |m8
 |eK
 deriving DecidableEq
@[reducible] def TT:SI->Type
 | .Expr=>cB
 | .Rule=>bI
 | .Def=>eu
 | .Entry=>bW
 | .Table=>dh
 | .ij=>bV
 | .Zone=>dJ
 | .Cap=>gq
 | .gx=>cu
 | .View=>fq
 | .my=>ax
 | .Lot=>cK
 | .fm=>kM
 | .Window=>NE
 | .gz=>jd
 | .kw=>bR
 | .graph=>o9
 | .ud=>bS
 | .side=>jr
 | .io=>kg
 | .Finding=>aQ
 | .span=>aN
 | .strip=>bZ
 | .kx=>bB
 | .j8=>aH
 | .Phase=>tF
 | .ef=>bn
 | .E2=>D2
 | .kA=>l9
 | .site=>ao5
 | .m7=>JY
 | .lj=>fT
 | .gO=>dW
 | .m8=>NF
 | .eK=>lu
def aqA:(i:SI)->TT i->U Tree
 | .Expr,x=>qY x
 | .Rule,x=>vH x
 | .Def,x=>Bh x
 | .Entry,x=>CV x
 | .Table,x=>CW x
 | .ij,x=>WY x
 | .Zone,x=>JQ x
 | .Cap,x=>Qc x
 | .gx,x=>u6 x
 | .View,x=>JR x
 | .my,x=>JS x
 | .Lot,x=>Iq x
 | .fm,x=>Af x
 | .Window,x=>JU x
 | .gz,x=>JV x
 | .kw,x=>JW x
 | .graph,x=>al3 x
 | .ud,x=>aoa x
 | .side,x=>aoc x
 | .io,x=>agX x
 | .Finding,x=>agY x
 | .span,x=>aiL x
 | .strip,x=>al4 x
 | .kx,x=>al5 x
 | .j8,x=>JX x
 | .Phase,x=>WZ x
 | .ef,x=>agZ x
 | .E2,x=>apD x
 | .kA,x=>al6 x
 | .site,x=>aod x
 | .m7,x=>aj4 x
 | .lj,x=>aoe x
 | .gO,x=>al7 x
 | .m8,x=>aj5 x
 | .eK,x=>aj6 x
def se:SE:=⟨SI,inferInstance,TT,aqA⟩
def Wr:SI->U (CT SI)
 | .Expr=>[(.int .i64),(.int .i64),.str,.str,(.sl (.st SI.Expr))]
 | .Rule=>[.str,(.sl .str),(.sl .str),(.int .i64),(.int .i64),(.int .i64),.bool,(.int .i64),(.int .i64),(.int .i64),.str,.str,(.sl (.st SI.Expr)),(.int .i64),(.int .i64),(.int .i64),(.int .i64),(.int .i64),(.int .i64),(.int .i64)]
 | .Def=>[.str,(.int .i64),(.int .i64),.str,.str,(.sl (.st SI.Expr))]
 | .Entry=>[.str,(.int .i64)]
 | .Table=>[.str,(.sl (.st SI.Entry)),(.int .i64)]
 | .ij=>[(.int .i64),(.int .i64)]
 | .Zone=>[.str,.bool,(.sl (.st SI.ij))]
 | .Cap=>[.str,(.int .i64),(.int .i64),(.sl (.st SI.ij))]
 | .gx=>[(.int .i64),(.int .i64),(.int .i64)]
 | .View=>[.str,(.int .i64),(.int .i64),(.int .i64),(.int .i64),(.sl (.st SI.gx))]
 | .my=>[(.int .i64),(.int .i64),(.int .i64),(.int .i64)]
 | .Lot=>[(.int .i64),(.int .i64),(.sl (.st SI.my)),(.sl (.int .i64))]
 | .fm=>[(.int .i64),(.sl (.st SI.my)),(.int .i64)]
 | .Window=>[(.int .i64),(.int .i64),(.int .i64),(.int .i64)]
 | .gz=>[(.int .i64),(.int .i64),(.int .i64),(.int .i64),(.int .i64),(.int .i64),(.int .i64),(.int .i64),(.int .i64),.bool]
 | .kw=>[(.sl (.st SI.Def)),(.sl (.st SI.Table)),(.sl (.st SI.Zone)),(.sl (.st SI.Rule)),(.sl (.st SI.Cap)),(.sl (.st SI.View)),(.sl (.st SI.gx)),(.int .i64),(.sl (.st SI.Lot)),(.sl (.st SI.fm)),(.sl (.st SI.Window)),(.sl (.st SI.gz)),(.sl (.st SI.Entry))]
 | .graph=>[(.sl (.st SI.Def)),(.sl (.sl (.int .i64)))]
 | .ud=>[(.sl (.st SI.Def)),(.sl (.st SI.Table)),(.sl (.st SI.Zone)),(.sl (.st SI.Rule)),(.sl (.st SI.Cap)),(.sl (.st SI.View)),(.sl (.st SI.gx)),(.int .i64)]
 | .side=>[(.int .i64),(.int .i64),(.int .i64),(.int .i64)]
 | .io=>[(.sl (.st SI.Def)),(.sl (.st SI.Table)),(.sl (.st SI.Zone)),(.sl (.st SI.Rule)),(.sl (.st SI.Cap)),(.sl (.st SI.View)),(.sl (.st SI.gx)),(.int .i64),(.sl (.st SI.Lot)),(.sl (.st SI.fm)),(.sl (.st SI.Window)),(.sl (.st SI.gz)),(.sl (.st SI.Entry)),(.int .i64)]
 | .Finding=>[(.int .i64),(.int .i64),(.sl .str),(.int .i64),(.int .i64),(.int .i64),(.int .i64),(.int .i64),(.int .i64)]
 | .span=>[(.int .i64),(.int .i64)]
 | .strip=>[(.int .i64),(.int .i64),(.sl (.st SI.span))]
 | .kx=>[(.int .i64),(.int .i64),(.int .i64),(.int .i64)]
 | .j8=>[(.int .i64),(.int .i64),(.int .i64),(.int .i64),(.int .i64),(.int .i64),(.int .i64),(.int .i64),.bool]
 | .Phase=>[(.sl (.st SI.j8)),(.sl (.st SI.Entry))]
 | .ef=>[(.int .i64),(.sl (.st SI.Phase))]
 | .E2=>[(.int .i64),(.int .i64),(.int .i64),(.int .i64),(.int .i64),(.int .i64)]
 | .kA=>[(.sl (.st SI.Def)),(.sl (.st SI.Table)),(.sl (.st SI.Zone)),(.sl (.st SI.Rule)),(.sl (.st SI.Cap)),(.sl (.st SI.View)),(.sl (.st SI.gx)),(.int .i64),(.sl (.st SI.Lot)),(.sl (.st SI.fm)),(.sl (.st SI.Window)),(.sl (.st SI.gz)),(.sl (.st SI.Entry)),(.int .i64),(.int .i64),(.sl (.st SI.my)),(.sl (.int .i64)),(.int .i64),(.sl (.st SI.Phase)),(.sl (.st SI.j8)),(.sl .str)]
 | .site=>[(.sl (.st SI.Def)),(.sl (.st SI.Table)),(.sl (.st SI.Zone)),(.sl (.st SI.Rule)),(.sl (.st SI.Cap)),(.sl (.st SI.View)),(.sl (.st SI.gx)),(.int .i64),(.sl (.st SI.my)),(.sl (.st SI.j8))]
 | .m7=>[.str,.str,.str,.str,.str,.str]
 | .lj=>[(.int .i64),(.int .i64),(.sl (.st SI.my))]
 | .gO=>[(.int .i64),(.int .i64),(.int .i64),(.int .i64)]
 | .m8=>[(.int .i64),(.int .i64),(.int .i64),(.int .i64)]
 | .eK=>[(.int .i64),(.int .i64)]
def aqB:(i:SI)->TT i->HL se (Wr i)
 | .Expr,x=>(x.op,x.n,x.s,x.key,x.args,())
 | .Rule,x=>(x.name,x.zones,x.except,x.from_,x.js,x.zd,x.vary,x.kind,x.lf,x.mC,x.mA,x.ke,x.gd,x.iv,x.ix,x.kf,x.kh,x.uses,x.other,x.n,())
 | .Def,x=>(x.name,x.jn,x.lR,x.k7,x.i8,x.eL,())
 | .Entry,x=>(x.name,x.n,())
 | .Table,x=>(x.name,x.rows,x.sm,())
 | .ij,x=>(x.x,x.y,())
 | .Zone,x=>(x.name,x.overlay,x.corners,())
 | .Cap,x=>(x.name,x.load,x.limit,x.corners,())
 | .gx,x=>(x.x,x.y,x.z,())
 | .View,x=>(x.name,x.zt,x.zr,x.zp,x.least,x.targets,())
 | .my,x=>(x.x0,x.y0,x.x1,x.y1,())
 | .Lot,x=>(x.id,x.owner,x.area,x.from_,())
 | .fm,x=>(x.lot,x.area,x.top,())
 | .Window,x=>(x.lot,x.td,x.tc,x.I3,())
 | .gz,x=>(x.lot,x.eC,x.ey,x.ez,x.ev,x.lr,x.lp,x.fp,x.mi,x.mj,())
 | .kw,x=>(x.cm,x.br,x.bu,x.az,x.cx,x.b9,x.cE,x.ca,x.land,x.co,x.windows,x.built,x.base,())
 | .graph,x=>(x.defs,x.uses,())
 | .ud,x=>(x.defs,x.tables,x.zones,x.rules,x.caps,x.views,x.uk,x.hours,())
 | .side,x=>(x.l4,x.pN,x.mw,x.ua,())
 | .io,x=>(x.ct,x.b8,x.b7,x.ci,x.cw,x.cg,x.cD,x.cj,x.eW,x.c9,x.d5,x.dg,x.fc,x.day,())
 | .Finding,x=>(x.kind,x.lot,x.names,x.fx,x.ft,x.ec,x.er,x.td,x.tc,())
 | .span,x=>(x.from_,x.to,())
 | .strip,x=>(x.x0,x.x1,x.column,())
 | .kx,x=>(x.lot,x.use,x.floors,x.iS,())
 | .j8,x=>(x.bz,x.cC,x.bx,x.cz,x.eQ,x.ep,x.use,x.units,x.extra,())
 | .Phase,x=>(x.cM,x.gives,())
 | .ef,x=>(x.lot,x.phases,())
 | .E2,x=>(x.oS,x.oE,x.oR,x.oB,x.z0,x.z1,())
 | .kA,x=>(x.ct,x.b8,x.b7,x.ci,x.cw,x.cg,x.cD,x.cj,x.eW,x.c9,x.d5,x.dg,x.fc,x.s7,x.mT,x.kO,x.pf,x.ee,x.i7,x.cM,x.zones,())
 | .site,x=>(x.cm,x.br,x.bu,x.az,x.cx,x.b9,x.cE,x.ca,x.area,x.cM,())
 | .m7,x=>(x.a0,x.a1,x.a2,x.a3,x.a4,x.a5,())
 | .lj,x=>(x.z0,x.z1,x.area,())
 | .gO,x=>(x.side,x.base,x.num,x.den,())
 | .m8,x=>(x.a0,x.a1,x.a2,x.a3,())
 | .eK,x=>(x.a0,x.a1,())
def aqd:(i:SI)->HL se (Wr i)->TT i
 | .Expr,h=>⟨h.1,h.2.1,h.2.2.1,h.2.2.2.1,h.2.2.2.2.1⟩
 | .Rule,h=>⟨h.1,h.2.1,h.2.2.1,h.2.2.2.1,h.2.2.2.2.1,h.2.2.2.2.2.1,h.2.2.2.2.2.2.1,h.2.2.2.2.2.2.2.1,h.2.2.2.2.2.2.2.2.1,h.2.2.2.2.2.2.2.2.2.1,h.2.2.2.2.2.2.2.2.2.2.1,h.2.2.2.2.2.2.2.2.2.2.2.1,h.2.2.2.2.2.2.2.2.2.2.2.2.1,h.2.2.2.2.2.2.2.2.2.2.2.2.2.1,h.2.2.2.2.2.2.2.2.2.2.2.2.2.2.1,h.2.2.2.2.2.2.2.2.2.2.2.2.2.2.2.1,h.2.2.2.2.2.2.2.2.2.2.2.2.2.2.2.2.1,h.2.2.2.2.2.2.2.2.2.2.2.2.2.2.2.2.2.1,h.2.2.2.2.2.2.2.2.2.2.2.2.2.2.2.2.2.2.1,h.2.2.2.2.2.2.2.2.2.2.2.2.2.2.2.2.2.2.2.1⟩
 | .Def,h=>⟨h.1,h.2.1,h.2.2.1,h.2.2.2.1,h.2.2.2.2.1,h.2.2.2.2.2.1⟩
 | .Entry,h=>⟨h.1,h.2.1⟩
 | .Table,h=>⟨h.1,h.2.1,h.2.2.1⟩
 | .ij,h=>⟨h.1,h.2.1⟩
 | .Zone,h=>⟨h.1,h.2.1,h.2.2.1⟩
 | .Cap,h=>⟨h.1,h.2.1,h.2.2.1,h.2.2.2.1⟩
 | .gx,h=>⟨h.1,h.2.1,h.2.2.1⟩
 | .View,h=>⟨h.1,h.2.1,h.2.2.1,h.2.2.2.1,h.2.2.2.2.1,h.2.2.2.2.2.1⟩
 | .my,h=>⟨h.1,h.2.1,h.2.2.1,h.2.2.2.1⟩
 | .Lot,h=>⟨h.1,h.2.1,h.2.2.1,h.2.2.2.1⟩
 | .fm,h=>⟨h.1,h.2.1,h.2.2.1⟩
 | .Window,h=>⟨h.1,h.2.1,h.2.2.1,h.2.2.2.1⟩
 | .gz,h=>⟨h.1,h.2.1,h.2.2.1,h.2.2.2.1,h.2.2.2.2.1,h.2.2.2.2.2.1,h.2.2.2.2.2.2.1,h.2.2.2.2.2.2.2.1,h.2.2.2.2.2.2.2.2.1,h.2.2.2.2.2.2.2.2.2.1⟩
 | .kw,h=>⟨h.1,h.2.1,h.2.2.1,h.2.2.2.1,h.2.2.2.2.1,h.2.2.2.2.2.1,h.2.2.2.2.2.2.1,h.2.2.2.2.2.2.2.1,h.2.2.2.2.2.2.2.2.1,h.2.2.2.2.2.2.2.2.2.1,h.2.2.2.2.2.2.2.2.2.2.1,h.2.2.2.2.2.2.2.2.2.2.2.1,h.2.2.2.2.2.2.2.2.2.2.2.2.1⟩
 | .graph,h=>⟨h.1,h.2.1⟩
 | .ud,h=>⟨h.1,h.2.1,h.2.2.1,h.2.2.2.1,h.2.2.2.2.1,h.2.2.2.2.2.1,h.2.2.2.2.2.2.1,h.2.2.2.2.2.2.2.1⟩
 | .side,h=>⟨h.1,h.2.1,h.2.2.1,h.2.2.2.1⟩
 | .io,h=>⟨h.1,h.2.1,h.2.2.1,h.2.2.2.1,h.2.2.2.2.1,h.2.2.2.2.2.1,h.2.2.2.2.2.2.1,h.2.2.2.2.2.2.2.1,h.2.2.2.2.2.2.2.2.1,h.2.2.2.2.2.2.2.2.2.1,h.2.2.2.2.2.2.2.2.2.2.1,h.2.2.2.2.2.2.2.2.2.2.2.1,h.2.2.2.2.2.2.2.2.2.2.2.2.1,h.2.2.2.2.2.2.2.2.2.2.2.2.2.1⟩
 | .Finding,h=>⟨h.1,h.2.1,h.2.2.1,h.2.2.2.1,h.2.2.2.2.1,h.2.2.2.2.2.1,h.2.2.2.2.2.2.1,h.2.2.2.2.2.2.2.1,h.2.2.2.2.2.2.2.2.1⟩
 | .span,h=>⟨h.1,h.2.1⟩
 | .strip,h=>⟨h.1,h.2.1,h.2.2.1⟩
 | .kx,h=>⟨h.1,h.2.1,h.2.2.1,h.2.2.2.1⟩
 | .j8,h=>⟨h.1,h.2.1,h.2.2.1,h.2.2.2.1,h.2.2.2.2.1,h.2.2.2.2.2.1,h.2.2.2.2.2.2.1,h.2.2.2.2.2.2.2.1,h.2.2.2.2.2.2.2.2.1⟩
 | .Phase,h=>⟨h.1,h.2.1⟩
 | .ef,h=>⟨h.1,h.2.1⟩
 | .E2,h=>⟨h.1,h.2.1,h.2.2.1,h.2.2.2.1,h.2.2.2.2.1,h.2.2.2.2.2.1⟩
 | .kA,h=>⟨h.1,h.2.1,h.2.2.1,h.2.2.2.1,h.2.2.2.2.1,h.2.2.2.2.2.1,h.2.2.2.2.2.2.1,h.2.2.2.2.2.2.2.1,h.2.2.2.2.2.2.2.2.1,h.2.2.2.2.2.2.2.2.2.1,h.2.2.2.2.2.2.2.2.2.2.1,h.2.2.2.2.2.2.2.2.2.2.2.1,h.2.2.2.2.2.2.2.2.2.2.2.2.1,h.2.2.2.2.2.2.2.2.2.2.2.2.2.1,h.2.2.2.2.2.2.2.2.2.2.2.2.2.2.1,h.2.2.2.2.2.2.2.2.2.2.2.2.2.2.2.1,h.2.2.2.2.2.2.2.2.2.2.2.2.2.2.2.2.1,h.2.2.2.2.2.2.2.2.2.2.2.2.2.2.2.2.2.1,h.2.2.2.2.2.2.2.2.2.2.2.2.2.2.2.2.2.2.1,h.2.2.2.2.2.2.2.2.2.2.2.2.2.2.2.2.2.2.2.1,h.2.2.2.2.2.2.2.2.2.2.2.2.2.2.2.2.2.2.2.2.1⟩
 | .site,h=>⟨h.1,h.2.1,h.2.2.1,h.2.2.2.1,h.2.2.2.2.1,h.2.2.2.2.2.1,h.2.2.2.2.2.2.1,h.2.2.2.2.2.2.2.1,h.2.2.2.2.2.2.2.2.1,h.2.2.2.2.2.2.2.2.2.1⟩
 | .m7,h=>⟨h.1,h.2.1,h.2.2.1,h.2.2.2.1,h.2.2.2.2.1,h.2.2.2.2.2.1⟩
 | .lj,h=>⟨h.1,h.2.1,h.2.2.1⟩
 | .gO,h=>⟨h.1,h.2.1,h.2.2.1,h.2.2.2.1⟩
 | .m8,h=>⟨h.1,h.2.1,h.2.2.1,h.2.2.2.1⟩
 | .eK,h=>⟨h.1,h.2.1⟩
def gvS:Nat->J ((c:CT SI)×CT.T se c):=λ_=>none
def xx:SX:={ toSE:=se,cX:=Wr,get:=aqB,make:=aqd,ml:=by intro i x;cases i<;>first |rfl |exact WX _,gC:=by intro i h;cases i<;>first |rfl |exact WX _,flat:=by intro i;cases i<;>rfl,gv:=gvS,zc:=λ_=>rfl }
abbrev de:Value:=.slice none 0 0
abbrev dt:Value:=.int .i64 0
abbrev Hc:Value:=.bool false
abbrev mf:Value:=.string ⟨#[]⟩
def tab:U (TypeId×np):=[
 (2,⟨1,8,false,[dt],.int .i64,[]⟩),
 (3,⟨1,8,false,[dt],.int .i64,[]⟩),
 (4,⟨1,1,false,[Hc],.bool,[]⟩),
 (9,⟨1,16,false,[mf],.str,[]⟩),
 (22,⟨1,24,false,[de],.slice 62,[]⟩),
 (23,⟨1,24,false,[de],.slice 93,[]⟩),
 (24,⟨1,24,false,[de],.slice 86,[]⟩),
 (25,⟨1,24,false,[de],.slice 47,[]⟩),
 (26,⟨1,24,false,[de],.slice 95,[]⟩),
 (27,⟨1,24,false,[de],.slice 396,[]⟩),
 (28,⟨1,24,false,[de],.slice 394,[]⟩),
 (30,⟨8,176,true,[de,de,de,de,de,de,de,dt],.struct [(0,22),(1,23),(2,24),(3,25),(4,26),(5,27),(6,28),(7,3)],[]⟩),
 (31,⟨1,24,false,[de],.slice 71,[]⟩),
 (32,⟨1,24,false,[de],.slice 73,[]⟩),
 (33,⟨1,24,false,[de],.slice 398,[]⟩),
 (34,⟨1,24,false,[de],.slice 251,[]⟩),
 (35,⟨1,24,false,[de],.slice 231,[]⟩),
 (37,⟨13,296,true,[de,de,de,de,de,de,de,dt,de,de,de,de,de],.struct [(0,30),(8,31),(9,32),(10,33),(11,34),(12,35)],[]⟩),
 (40,⟨1,24,false,[de],.slice 42,[]⟩),
 (42,⟨5,72,true,[dt,dt,mf,mf,de],.struct [(0,3),(1,3),(2,9),(3,9),(4,40)],[]⟩),
 (43,⟨1,24,false,[de],.slice 9,[]⟩),
 (45,⟨4,32,true,[dt,dt,dt,dt],.struct [(0,3),(1,3),(2,3),(3,3)],[0,0,0,0]⟩),
 (47,⟨20,232,true,[mf,de,de,dt,dt,dt,Hc,dt,dt,dt,mf,mf,de,dt,dt,dt,dt,dt,dt,dt],.struct [(0,9),(1,43),(2,43),(3,3),(4,3),(5,3),(6,4),(7,3),(8,42),(13,45),(17,3),(18,3),(19,3)],[]⟩),
 (48,⟨1,24,false,[de],.slice 55,[]⟩),
 (51,⟨4,32,true,[dt,dt,dt,dt],.struct [(0,3),(1,3),(2,3),(3,3)],[0,0,0,0]⟩),
 (53,⟨2,16,true,[dt,dt],.struct [(0,3),(1,3)],[0,0]⟩),
 (55,⟨9,88,true,[dt,dt,de,dt,dt,dt,dt,dt,dt],.struct [(0,3),(1,3),(2,43),(3,51),(7,53)],[]⟩),
 (62,⟨6,88,true,[mf,dt,dt,mf,mf,de],.struct [(0,9),(1,42)],[]⟩),
 (68,⟨1,24,false,[de],.slice 88,[]⟩),
 (69,⟨1,24,false,[de],.slice 3,[]⟩),
 (71,⟨4,64,true,[dt,dt,de,de],.struct [(0,3),(1,3),(2,68),(3,69)],[]⟩),
 (73,⟨3,40,true,[dt,de,dt],.struct [(0,3),(1,68),(2,3)],[]⟩),
 (75,⟨14,304,true,[de,de,de,de,de,de,de,dt,de,de,de,de,de,dt],.struct [(0,37),(13,3)],[]⟩),
 (77,⟨1,8,false,[.map none],.map 3 4,[]⟩),
 (82,⟨1,24,false,[de],.slice 51,[]⟩),
 (84,⟨1,24,false,[de],.slice 53,[]⟩),
 (86,⟨3,48,true,[mf,Hc,de],.struct [(0,9),(1,4),(2,84)],[]⟩),
 (88,⟨4,32,true,[dt,dt,dt,dt],.struct [(0,3),(1,3),(2,3),(3,3)],[0,0,0,0]⟩),
 (93,⟨3,48,true,[mf,de,dt],.struct [(0,9),(1,35),(2,3)],[]⟩),
 (95,⟨4,56,true,[mf,dt,dt,de],.struct [(0,9),(1,3),(2,3),(3,84)],[]⟩),
 (107,⟨1,24,false,[de],.slice 196,[]⟩),
 (109,⟨2,32,true,[dt,de],.struct [(0,3),(1,107)],[]⟩),
 (114,⟨1,8,false,[.map none],.map 117 3,[]⟩),
 (117,⟨2,16,true,[dt,dt],.arr 2 3,[]⟩),
 (118,⟨1,8,false,[.nilFunc],.other,[]⟩),
 (125,⟨1,8,false,[.map none],.map 9 4,[]⟩),
 (130,⟨1,24,false,[de],.slice 68,[]⟩),
 (136,⟨1,24,false,[de],.slice 148,[]⟩),
 (138,⟨21,440,true,[de,de,de,de,de,de,de,dt,de,de,de,de,de,dt,dt,de,de,dt,de,de,de],.struct [(0,37),(13,71),(17,109),(19,136),(20,43)],[]⟩),
 (146,⟨6,48,true,[dt,dt,dt,dt,dt,dt],.struct [(0,88),(4,3),(5,3)],[]⟩),
 (148,⟨9,72,true,[dt,dt,dt,dt,dt,dt,dt,dt,Hc],.struct [(0,146),(6,3),(7,3),(8,4)],[]⟩),
 (150,⟨1,24,false,[de],.slice 193,[]⟩),
 (162,⟨1,8,false,[.int .u64 0],.int .u64,[]⟩),
 (166,⟨1,8,false,[.map none],.map 9 3,[]⟩),
 (167,⟨1,24,false,[de],.slice 69,[]⟩),
 (169,⟨2,48,true,[de,de],.struct [(0,22),(1,167)],[]⟩),
 (173,⟨1,24,false,[de],.slice 4,[]⟩),
 (187,⟨1,24,false,[de],.slice 45,[]⟩),
 (193,⟨3,40,true,[dt,dt,de],.struct [(0,3),(1,3),(2,68)],[]⟩),
 (196,⟨2,48,true,[de,de],.struct [(0,136),(1,35)],[]⟩),
 (223,⟨1,24,false,[de],.slice 226,[]⟩),
 (226,⟨4,32,true,[dt,dt,dt,dt],.struct [(0,53),(2,53)],[]⟩),
 (231,⟨2,24,true,[mf,dt],.struct [(0,9),(1,3)],[2,0]⟩),
 (236,⟨10,208,true,[de,de,de,de,de,de,de,dt,.map none,de],.struct [(0,30),(8,166),(9,43)],[]⟩),
 (239,⟨1,8,false,[.pointer none],.other,[]⟩),
 (241,⟨10,224,true,[de,de,de,de,de,de,de,dt,de,de],.struct [(0,30),(8,68),(9,136)],[]⟩),
 (243,⟨1,8,false,[.nilFunc],.other,[]⟩),
 (245,⟨2,24,true,[mf,.nilFunc],.struct [(0,9),(1,243)],[]⟩),
 (246,⟨18,216,true,[mf,.nilFunc,mf,.nilFunc,mf,.nilFunc,mf,.nilFunc,mf,.nilFunc,mf,.nilFunc,mf,.nilFunc,mf,.nilFunc,mf,.nilFunc],.arr 9 245,[]⟩),
 (251,⟨10,80,true,[dt,dt,dt,dt,dt,dt,dt,dt,dt,Hc],.struct [(0,3),(1,148)],[]⟩),
 (257,⟨1,24,false,[de],.slice 261,[]⟩),
 (259,⟨1,24,false,[de],.slice 304,[]⟩),
 (261,⟨3,40,true,[dt,dt,de],.struct [(0,3),(1,3),(2,259)],[]⟩),
 (304,⟨2,16,true,[dt,dt],.struct [(0,3),(1,3)],[0,0]⟩),
 (332,⟨4,32,true,[dt,dt,dt,dt],.arr 4 3,[]⟩),
 (337,⟨1,24,false,[de],.slice 259,[]⟩),
 (359,⟨6,96,true,[mf,mf,mf,mf,mf,mf],.arr 6 9,[]⟩),
 (394,⟨3,24,true,[dt,dt,dt],.struct [(0,3),(1,3),(2,3)],[0,0,0]⟩),
 (396,⟨6,72,true,[mf,dt,dt,dt,dt,de],.struct [(0,9),(1,394),(4,3),(5,28)],[]⟩),
 (398,⟨4,32,true,[dt,dt,dt,dt],.struct [(0,3),(1,394)],[]⟩)]
def aqe:U (TypeId×CT SI):=[(3,(.int .i64)),(4,.bool),(9,.str),(42,(.st SI.Expr)),(45,(.st SI.gO)),(47,(.st SI.Rule)),(51,(.st SI.kx)),(53,(.st SI.ij)),(55,(.st SI.Finding)),(62,(.st SI.Def)),(68,(.sl (.st SI.my))),(71,(.st SI.Lot)),(86,(.st SI.Zone)),(88,(.st SI.my)),(117,(.st SI.eK)),(148,(.st SI.j8)),(193,(.st SI.lj)),(196,(.st SI.Phase)),(226,(.st SI.side)),(231,(.st SI.Entry)),(259,(.sl (.st SI.span))),(261,(.st SI.strip)),(304,(.st SI.span))]
def ao6:TypeId->J (CT xx.ι):=lk aqe
theorem OS:fe Tryz.prog (RB tab):=alc (by kernel_rfl)
theorem mixed:Tryz.prog.follows .mixedOrders=true:=Checked.mixed Tryz.checked
theorem cq{f:FuncId}{fn:Func}{l:U (FuncId×cp xx)}(hΓ:sC Tryz.prog (xr l))(hfn:Tryz.prog.funcs[f]? =some fn){s:cp xx}(h:Hn SI)(n:Nat)
 (hq : (fn.body.isSome && !(fn.name == "runtime.NumGoroutine") && decide (s.args.length <= fn.ntmps /\ qm s.args <= 1000 /\ (s.res.filter RT.out).length = qm s.args)) = true := by kernel_rfl) (hg : s.gen = none := by rfl)
 (hr:∀a,run (xr l) (RB tab) ao6 fn.ntmps n (fn.body.getD .skip) (sM xx s.res) h (xf s.args a) (ap5 (RB tab) fn.results.toList s.res)=s.fn a:=by intro _;kernel_rfl):AH Tryz.prog f s:=by
 rw[aL,aL]at hq;obtain⟨⟨q1,q2⟩,q3⟩:=hq;have hb:fn.body=some (fn.body.getD .skip):=by
  cases hc:fn.body with
  |none=>rw[hc]at q1;cases q1
  |some c=>rfl
 have hn : (fn.name == "runtime.NumGoroutine") = false := by simpa using q2
 exact zz (nk hfn hb hn) (λ a _ e=>ap6 OS mixed hΓ hfn hb hn _ _ (of_decide_eq_true q3) h n ((hr a).trans e)) hg
theorem oA{f:FuncId}{fn:Func}{l:U (FuncId×cp xx)}(hΓ:sC Tryz.prog (xr l))(hfn:Tryz.prog.funcs[f]? =some fn){g:df xx}(h:Hn SI)(n:Nat)
 (hq : (fn.body.isSome && !(fn.name == "runtime.NumGoroutine") && decide (g.pL.length <= fn.ntmps) && g.A1) = true)
 (hr:∀v,run (xr l) (RB tab) ao6 fn.ntmps n (fn.body.getD .skip) (VT (X:=xx) (Ae g).vars) h (GB g v) (ao2 (RB tab) fn.results.toList g)=g.fn v):AH Tryz.prog f ⟨[],[.d .bool],λ_=>none,some g⟩:=by
 rw[aL,aL,aL]at hq;obtain⟨⟨⟨q1,q2⟩,q3⟩,q4⟩:=hq;have hb:fn.body=some (fn.body.getD .skip):=by
  cases hc:fn.body with
  |none=>rw[hc]at q1;cases q1
  |some c=>rfl
 have hn : (fn.name == "runtime.NumGoroutine") = false := by simpa using q2
 exact MY (nk hfn hb hn) (aps OS mixed hΓ hfn hb hn g (of_decide_eq_true q3) q4 h n (λ v _ e=>(hr v).trans e))
theorem gcn:sC Tryz.prog (xr ([]:U (FuncId×cp xx))):=aB
abbrev ah:CT SI:=.int .i64
abbrev bq:CT SI:=.st SI.Rule
abbrev bE:CT SI:=.st SI.Def
abbrev bg:CT SI:=.st SI.Table
abbrev bH:CT SI:=.st SI.Zone
abbrev bO:CT SI:=.st SI.Cap
abbrev aY:CT SI:=.st SI.gx
abbrev bK:CT SI:=.st SI.View
abbrev ay:CT SI:=.st SI.my
abbrev gG:CT SI:=.st SI.Lot
abbrev iM:CT SI:=.st SI.ud
abbrev eO:CT SI:=.st SI.kx
abbrev aG:CT SI:=.st SI.j8
abbrev aJ(f:Nat)(s:cp xx):Prop:=AH Tryz.prog f s
abbrev gM:=(List eu)×(List dh)×(List dJ)×(List bI)×(List gq)×(List fq)×(List cu)×Int×(List ax)×(List aH)
end Go.Proofs
