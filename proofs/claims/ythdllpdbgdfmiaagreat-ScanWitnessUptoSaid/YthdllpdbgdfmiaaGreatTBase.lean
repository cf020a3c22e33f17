import Derived.Test.YthdllpdbgdfmiaaGreatH1
import Derived.Test.YthdllpdbgdfmiaaGreatChecked
namespace Go.Proofs
open Go.Gb Go.RowKit
structure bP where
 op:Int
 n:Int
 s:ByteArray
 key:ByteArray
 args:(List bP)
mutual
def rO:bP->List Tree
 |⟨f0,f1,f2,f3,f4⟩=>[.sc (.int .i64 f0),.sc (.int .i64 f1),.sc (.string f2),.sc (.string f3),.sl (ul f4)]
def ul:List bP->List (List Tree)
 |[]=>[]
 |x::xs=>rO x::ul xs
end
theorem um:∀l:List bP,ul l=l.map rO
 |[]=>rfl
 |x::xs=>by rw[ul,um xs];rfl
theorem XA(x:bP):rO x=[.sc (.int .i64 x.op),.sc (.int .i64 x.n),.sc (.string x.s),.sc (.string x.key),.sl (x.args.map rO)]:=by cases x;simp only[rO,um]
structure cK where
 name:ByteArray
 zones:(List ByteArray)
 except:(List ByteArray)
 from_:Int
 j8:Int
 At:Int
 vary:Bool
 kind:Int
 lw:Int
 m8:Int
 m7:ByteArray
 ky:ByteArray
 gO:(List bP)
 jn:Int
 jp:Int
 kA:Int
 kB:Int
 uses:Int
 other:Int
 n:Int
def wu(x:cK):List Tree:=[.sc (.string x.name),.sl (x.zones.map (λ y=>[.sc (.string y)])),.sl (x.except.map (λ y=>[.sc (.string y)])),.sc (.int .i64 x.from_),.sc (.int .i64 x.j8),.sc (.int .i64 x.At),.sc (.bool x.vary),.sc (.int .i64 x.kind),.sc (.int .i64 x.lw),.sc (.int .i64 x.m8),.sc (.string x.m7),.sc (.string x.ky),.sl (x.gO.map rO),.sc (.int .i64 x.jn),.sc (.int .i64 x.jp),.sc (.int .i64 x.kA),.sc (.int .i64 x.kB),.sc (.int .i64 x.uses),.sc (.int .i64 x.other),.sc (.int .i64 x.n)]
structure fB where
 name:ByteArray
 eW:Int
 gp:Int
 fW:ByteArray
 ep:ByteArray
 c8:(List bP)
def BK(x:fB):List Tree:=[.sc (.string x.name),.sc (.int .i64 x.eW),.sc (.int .i64 x.gp),.sc (.string x.fW),.sc (.string x.ep),.sl (x.c8.map rO)]
structure bS where
 name:ByteArray
 n:Int
 deriving DecidableEq,Inhabited
def Dn(x:bS):List Tree:=[.sc (.string x.name),.sc (.int .i64 x.n)]
structure dJ where
 name:ByteArray
 rows:(List bS)
 sL:Int
 deriving DecidableEq,Inhabited
def Dp(x:dJ):List Tree:=[.sc (.string x.name),.sl (x.rows.map Dn),.sc (.int .i64 x.sL)]
structure bQ where
 x:Int
 y:Int
 deriving DecidableEq,Inhabited
def XB(x:bQ):List Tree:=[.sc (.int .i64 x.x),.sc (.int .i64 x.y)]
structure eX where
 name:ByteArray
 overlay:Bool
 corners:(List bQ)
 deriving DecidableEq,Inhabited
def Kh(x:eX):List Tree:=[.sc (.string x.name),.sc (.bool x.overlay),.sl (x.corners.map XB)]
structure jP where
 name:ByteArray
 load:Int
 limit:Int
 corners:(List bQ)
 deriving DecidableEq,Inhabited
def QB(x:jP):List Tree:=[.sc (.string x.name),.sc (.int .i64 x.load),.sc (.int .i64 x.limit),.sl (x.corners.map XB)]
structure dN where
 x:Int
 y:Int
 z:Int
 deriving DecidableEq,Inhabited
def vJ(x:dN):List Tree:=[.sc (.int .i64 x.x),.sc (.int .i64 x.y),.sc (.int .i64 x.z)]
structure iP where
 name:ByteArray
 AF:Int
 AE:Int
 AD:Int
 least:Int
 targets:(List dN)
 deriving DecidableEq,Inhabited
def Ki(x:iP):List Tree:=[.sc (.string x.name),.sc (.int .i64 x.AF),.sc (.int .i64 x.AE),.sc (.int .i64 x.AD),.sc (.int .i64 x.least),.sl (x.targets.map vJ)]
structure ax where
 x0:Int
 y0:Int
 x1:Int
 y1:Int
 deriving DecidableEq,Inhabited
def Kj(x:ax):List Tree:=[.sc (.int .i64 x.x0),.sc (.int .i64 x.y0),.sc (.int .i64 x.x1),.sc (.int .i64 x.y1)]
structure bW where
 id:Int
 owner:Int
 area:(List ax)
 from_:(List Int)
 deriving DecidableEq,Inhabited
def IX(x:bW):List Tree:=[.sc (.int .i64 x.id),.sc (.int .i64 x.owner),.sl (x.area.map Kj),.sl (x.from_.map (λ y=>[.sc (.int .i64 y)]))]
structure nG where
 lot:Int
 area:(List ax)
 top:Int
 deriving DecidableEq,Inhabited
def AB(x:nG):List Tree:=[.sc (.int .i64 x.lot),.sl (x.area.map Kj),.sc (.int .i64 x.top)]
structure Od where
 lot:Int
 k8:Int
 k7:Int
 Mo:Int
 deriving DecidableEq,Inhabited
def Kk(x:Od):List Tree:=[.sc (.int .i64 x.lot),.sc (.int .i64 x.k8),.sc (.int .i64 x.k7),.sc (.int .i64 x.Mo)]
structure jJ where
 lot:Int
 eS:Int
 eQ:Int
 eR:Int
 eM:Int
 lP:Int
 lO:Int
 fS:Int
 mA:Int
 mC:Bool
 deriving DecidableEq,Inhabited
def Kl(x:jJ):List Tree:=[.sc (.int .i64 x.lot),.sc (.int .i64 x.eS),.sc (.int .i64 x.eQ),.sc (.int .i64 x.eR),.sc (.int .i64 x.eM),.sc (.int .i64 x.lP),.sc (.int .i64 x.lO),.sc (.int .i64 x.fS),.sc (.int .i64 x.mA),.sc (.bool x.mC)]
structure bR where
 cj:(List fB)
 bp:(List dJ)
 aw:(List eX)
 az:(List cK)
 cm:(List jP)
 b8:(List iP)
 cD:(List dN)
 b9:Int
 land:(List bW)
 cC:(List nG)
 windows:(List Od)
 built:(List jJ)
 base:(List bS)
def Km(x:bR):List Tree:=[.sl (x.cj.map BK),.sl (x.bp.map Dp),.sl (x.aw.map Kh),.sl (x.az.map wu),.sl (x.cm.map QB),.sl (x.b8.map Ki),.sl (x.cD.map vJ),.sc (.int .i64 x.b9),.sl (x.land.map IX),.sl (x.cC.map AB),.sl (x.windows.map Kk),.sl (x.built.map Kl),.sl (x.base.map Dn)]
structure nW where
 defs:(List fB)
 uses:(List (List Int))
def am4(x:nW):List Tree:=[.sl (x.defs.map BK),.sl (x.uses.map (λ y=>[.sl (y.map (λ y=>[.sc (.int .i64 y)]))]))]
structure bn where
 defs:(List fB)
 tables:(List dJ)
 zones:(List eX)
 rules:(List cK)
 caps:(List jP)
 views:(List iP)
 vh:(List dN)
 hours:Int
def ao4(x:bn):List Tree:=[.sl (x.defs.map BK),.sl (x.tables.map Dp),.sl (x.zones.map Kh),.sl (x.rules.map wu),.sl (x.caps.map QB),.sl (x.views.map Ki),.sl (x.vh.map vJ),.sc (.int .i64 x.hours)]
structure jV where
 mj:Int
 qe:Int
 m4:Int
 uC:Int
 deriving DecidableEq,Inhabited
def ao5(x:jV):List Tree:=[.sc (.int .i64 x.mj),.sc (.int .i64 x.qe),.sc (.int .i64 x.m4),.sc (.int .i64 x.uC)]
structure kS where
 co:(List fB)
 bx:(List dJ)
 bm:(List eX)
 cg:(List cK)
 cp:(List jP)
 ca:(List iP)
 cy:(List dN)
 ci:Int
 fm:(List bW)
 dc:(List nG)
 eb:(List Od)
 du:(List jJ)
 fp:(List bS)
 day:Int
def ahA(x:kS):List Tree:=[.sl (x.co.map BK),.sl (x.bx.map Dp),.sl (x.bm.map Kh),.sl (x.cg.map wu),.sl (x.cp.map QB),.sl (x.ca.map Ki),.sl (x.cy.map vJ),.sc (.int .i64 x.ci),.sl (x.fm.map IX),.sl (x.dc.map AB),.sl (x.eb.map Kk),.sl (x.du.map Kl),.sl (x.fp.map Dn),.sc (.int .i64 x.day)]
structure aC where
 kind:Int
 lot:Int
 names:(List ByteArray)
 i8:Int
 i7:Int
 ft:Int
 fY:Int
 k8:Int
 k7:Int
 deriving DecidableEq,Inhabited
def ahB(x:aC):List Tree:=[.sc (.int .i64 x.kind),.sc (.int .i64 x.lot),.sl (x.names.map (λ y=>[.sc (.string y)])),.sc (.int .i64 x.i8),.sc (.int .i64 x.i7),.sc (.int .i64 x.ft),.sc (.int .i64 x.fY),.sc (.int .i64 x.k8),.sc (.int .i64 x.k7)]
structure aK where
 from_:Int
 to:Int
 deriving DecidableEq,Inhabited
def ajC(x:aK):List Tree:=[.sc (.int .i64 x.from_),.sc (.int .i64 x.to)]
structure bX where
 x0:Int
 x1:Int
 column:(List aK)
 deriving DecidableEq,Inhabited
def am5(x:bX):List Tree:=[.sc (.int .i64 x.x0),.sc (.int .i64 x.x1),.sl (x.column.map ajC)]
structure bg where
 lot:Int
 use:Int
 floors:Int
 cE:Int
 deriving DecidableEq,Inhabited
def am6(x:bg):List Tree:=[.sc (.int .i64 x.lot),.sc (.int .i64 x.use),.sc (.int .i64 x.floors),.sc (.int .i64 x.cE)]
structure aF where
 bu:Int
 cw:Int
 br:Int
 ct:Int
 fg:Int
 ek:Int
 use:Int
 units:Int
 extra:Bool
 deriving DecidableEq,Inhabited
def Kn(x:aF):List Tree:=[.sc (.int .i64 x.bu),.sc (.int .i64 x.cw),.sc (.int .i64 x.br),.sc (.int .i64 x.ct),.sc (.int .i64 x.fg),.sc (.int .i64 x.ek),.sc (.int .i64 x.use),.sc (.int .i64 x.units),.sc (.bool x.extra)]
structure pF where
 cP:(List aF)
 gives:(List bS)
 deriving DecidableEq,Inhabited
def XC(x:pF):List Tree:=[.sl (x.cP.map Kn),.sl (x.gives.map Dn)]
structure bf where
 lot:Int
 phases:(List pF)
 deriving DecidableEq,Inhabited
def ahC(x:bf):List Tree:=[.sc (.int .i64 x.lot),.sl (x.phases.map XC)]
structure FF where
 pj:Int
 pf:Int
 pg:Int
 pd:Int
 z0:Int
 z1:Int
 deriving DecidableEq,Inhabited
def aqx(x:FF):List Tree:=[.sc (.int .i64 x.pj),.sc (.int .i64 x.pf),.sc (.int .i64 x.pg),.sc (.int .i64 x.pd),.sc (.int .i64 x.z0),.sc (.int .i64 x.z1)]
structure mK where
 co:(List fB)
 bx:(List dJ)
 bm:(List eX)
 cg:(List cK)
 cp:(List jP)
 ca:(List iP)
 cy:(List dN)
 ci:Int
 fm:(List bW)
 dc:(List nG)
 eb:(List Od)
 du:(List jJ)
 fp:(List bS)
 tj:Int
 nh:Int
 lp:(List ax)
 px:(List Int)
 eo:Int
 jt:(List pF)
 cP:(List aF)
 zones:(List ByteArray)
def am7(x:mK):List Tree:=[.sl (x.co.map BK),.sl (x.bx.map Dp),.sl (x.bm.map Kh),.sl (x.cg.map wu),.sl (x.cp.map QB),.sl (x.ca.map Ki),.sl (x.cy.map vJ),.sc (.int .i64 x.ci),.sl (x.fm.map IX),.sl (x.dc.map AB),.sl (x.eb.map Kk),.sl (x.du.map Kl),.sl (x.fp.map Dn),.sc (.int .i64 x.tj),.sc (.int .i64 x.nh),.sl (x.lp.map Kj),.sl (x.px.map (λ y=>[.sc (.int .i64 y)])),.sc (.int .i64 x.eo),.sl (x.jt.map XC),.sl (x.cP.map Kn),.sl (x.zones.map (λ y=>[.sc (.string y)]))]
structure apZ where
 cj:(List fB)
 bp:(List dJ)
 aw:(List eX)
 az:(List cK)
 cm:(List jP)
 b8:(List iP)
 cD:(List dN)
 b9:Int
 area:(List ax)
 cP:(List aF)
def ao6(x:apZ):List Tree:=[.sl (x.cj.map BK),.sl (x.bp.map Dp),.sl (x.aw.map Kh),.sl (x.az.map wu),.sl (x.cm.map QB),.sl (x.b8.map Ki),.sl (x.cD.map vJ),.sc (.int .i64 x.b9),.sl (x.area.map Kj),.sl (x.cP.map Kn)]
structure Ko where
 a0:ByteArray
 a1:ByteArray
 a2:ByteArray
 a3:ByteArray
 a4:ByteArray
 a5:ByteArray
 deriving DecidableEq,Inhabited
def ak4(x:Ko):List Tree:=[.sc (.string x.a0),.sc (.string x.a1),.sc (.string x.a2),.sc (.string x.a3),.sc (.string x.a4),.sc (.string x.a5)]
structure gQ where
 z0:Int
 z1:Int
 area:(List ax)
 deriving DecidableEq,Inhabited
def ao7(x:gQ):List Tree:=[.sc (.int .i64 x.z0),.sc (.int .i64 x.z1),.sl (x.area.map Kj)]
structure eH where
 side:Int
 base:Int
 num:Int
 den:Int
 deriving DecidableEq,Inhabited
def am8(x:eH):List Tree:=[.sc (.int .i64 x.side),.sc (.int .i64 x.base),.sc (.int .i64 x.num),.sc (.int .i64 x.den)]
structure Oe where
 a0:Int
 a1:Int
 a2:Int
 a3:Int
 deriving DecidableEq,Inhabited
def ak5(x:Oe):List Tree:=[.sc (.int .i64 x.a0),.sc (.int .i64 x.a1),.sc (.int .i64 x.a2),.sc (.int .i64 x.a3)]
structure ng where
 a0:Int
 a1:Int
 deriving DecidableEq,Inhabited
def ak6(x:ng):List Tree:=[.sc (.int .i64 x.a0),.sc (.int .i64 x.a1)]
inductive SI where
 |Expr
 |Rule
 |Def
 |Entry
 |Table
 |iv
 |Zone
 |Cap
 |hZ
 |View
 |m5
 |Lot
 |fR
 |Window
 |ia
 |kw
 |graph
 |vd
 |side
 |ix
 |Finding
 |span
 |strip
 |lf
 |km
 |Phase
 |er
 |GS
 |li
 |site
 |nr
 |lL
 |il
 |nw
 |ff
 deriving DecidableEq
@[reducible] def TT:SI->Type
 |.Expr=>bP
 |.Rule=>cK
 |.Def=>fB
 |.Entry=>bS
 |.Table=>dJ
 |.iv=>bQ
 |.Zone=>eX
 |.Cap=>jP
 |.hZ=>dN
 |.View=>iP
 |.m5=>ax
 |.Lot=>bW
 |.fR=>nG
 |.Window=>Od
 |.ia=>jJ
 |.kw=>bR
 |.graph=>nW
 |.vd=>bn
 |.side=>jV
 |.ix=>kS
 |.Finding=>aC
 |.span=>aK
 |.strip=>bX
 |.lf=>bg
 |.km=>aF
 |.Phase=>pF
 |.er=>bf
 |.GS=>FF
 |.li=>mK
 |.site=>apZ
 |.nr=>Ko
 |.lL=>gQ
 |.il=>eH
 |.nw=>Oe
 |.ff=>ng
def arE:(i:SI)->TT i->List Tree
 |.Expr,x=>rO x
 |.Rule,x=>wu x
 |.Def,x=>BK x
 |.Entry,x=>Dn x
 |.Table,x=>Dp x
 |.iv,x=>XB x
 |.Zone,x=>Kh x
 |.Cap,x=>QB x
 |.hZ,x=>vJ x
 |.View,x=>Ki x
 |.m5,x=>Kj x
 |.Lot,x=>IX x
 |.fR,x=>AB x
 |.Window,x=>Kk x
 |.ia,x=>Kl x
 |.kw,x=>Km x
 |.graph,x=>am4 x
 |.vd,x=>ao4 x
 |.side,x=>ao5 x
 |.ix,x=>ahA x
 |.Finding,x=>ahB x
 |.span,x=>ajC x
 |.strip,x=>am5 x
 |.lf,x=>am6 x
 |.km,x=>Kn x
 |.Phase,x=>XC x
 |.er,x=>ahC x
 |.GS,x=>aqx x
 |.li,x=>am7 x
 |.site,x=>ao6 x
 |.nr,x=>ak4 x
 |.lL,x=>ao7 x
 |.il,x=>am8 x
 |.nw,x=>ak5 x
 |.ff,x=>ak6 x
def se:SE:=⟨SI,inferInstance,TT,arE⟩
def aqy:SI->List (CT SI)
 |.Expr=>[(.int .i64),(.int .i64),.str,.str,(.sl (.st SI.Expr))]
 |.Rule=>[.str,(.sl .str),(.sl .str),(.int .i64),(.int .i64),(.int .i64),.bool,(.int .i64),(.int .i64),(.int .i64),.str,.str,(.sl (.st SI.Expr)),(.int .i64),(.int .i64),(.int .i64),(.int .i64),(.int .i64),(.int .i64),(.int .i64)]
 |.Def=>[.str,(.int .i64),(.int .i64),.str,.str,(.sl (.st SI.Expr))]
 |.Entry=>[.str,(.int .i64)]
 |.Table=>[.str,(.sl (.st SI.Entry)),(.int .i64)]
 |.iv=>[(.int .i64),(.int .i64)]
 |.Zone=>[.str,.bool,(.sl (.st SI.iv))]
 |.Cap=>[.str,(.int .i64),(.int .i64),(.sl (.st SI.iv))]
 |.hZ=>[(.int .i64),(.int .i64),(.int .i64)]
 |.View=>[.str,(.int .i64),(.int .i64),(.int .i64),(.int .i64),(.sl (.st SI.hZ))]
 |.m5=>[(.int .i64),(.int .i64),(.int .i64),(.int .i64)]
 |.Lot=>[(.int .i64),(.int .i64),(.sl (.st SI.m5)),(.sl (.int .i64))]
 |.fR=>[(.int .i64),(.sl (.st SI.m5)),(.int .i64)]
 |.Window=>[(.int .i64),(.int .i64),(.int .i64),(.int .i64)]
 |.ia=>[(.int .i64),(.int .i64),(.int .i64),(.int .i64),(.int .i64),(.int .i64),(.int .i64),(.int .i64),(.int .i64),.bool]
 |.kw=>[(.sl (.st SI.Def)),(.sl (.st SI.Table)),(.sl (.st SI.Zone)),(.sl (.st SI.Rule)),(.sl (.st SI.Cap)),(.sl (.st SI.View)),(.sl (.st SI.hZ)),(.int .i64),(.sl (.st SI.Lot)),(.sl (.st SI.fR)),(.sl (.st SI.Window)),(.sl (.st SI.ia)),(.sl (.st SI.Entry))]
 |.graph=>[(.sl (.st SI.Def)),(.sl (.sl (.int .i64)))]
 |.vd=>[(.sl (.st SI.Def)),(.sl (.st SI.Table)),(.sl (.st SI.Zone)),(.sl (.st SI.Rule)),(.sl (.st SI.Cap)),(.sl (.st SI.View)),(.sl (.st SI.hZ)),(.int .i64)]
 |.side=>[(.int .i64),(.int .i64),(.int .i64),(.int .i64)]
 |.ix=>[(.sl (.st SI.Def)),(.sl (.st SI.Table)),(.sl (.st SI.Zone)),(.sl (.st SI.Rule)),(.sl (.st SI.Cap)),(.sl (.st SI.View)),(.sl (.st SI.hZ)),(.int .i64),(.sl (.st SI.Lot)),(.sl (.st SI.fR)),(.sl (.st SI.Window)),(.sl (.st SI.ia)),(.sl (.st SI.Entry)),(.int .i64)]
 |.Finding=>[(.int .i64),(.int .i64),(.sl .str),(.int .i64),(.int .i64),(.int .i64),(.int .i64),(.int .i64),(.int .i64)]
 |.span=>[(.int .i64),(.int .i64)]
 |.strip=>[(.int .i64),(.int .i64),(.sl (.st SI.span))]
 |.lf=>[(.int .i64),(.int .i64),(.int .i64),(.int .i64)]
 |.km=>[(.int .i64),(.int .i64),(.int .i64),(.int .i64),(.int .i64),(.int .i64),(.int .i64),(.int .i64),.bool]
 |.Phase=>[(.sl (.st SI.km)),(.sl (.st SI.Entry))]
 |.er=>[(.int .i64),(.sl (.st SI.Phase))]
 |.GS=>[(.int .i64),(.int .i64),(.int .i64),(.int .i64),(.int .i64),(.int .i64)]
 |.li=>[(.sl (.st SI.Def)),(.sl (.st SI.Table)),(.sl (.st SI.Zone)),(.sl (.st SI.Rule)),(.sl (.st SI.Cap)),(.sl (.st SI.View)),(.sl (.st SI.hZ)),(.int .i64),(.sl (.st SI.Lot)),(.sl (.st SI.fR)),(.sl (.st SI.Window)),(.sl (.st SI.ia)),(.sl (.st SI.Entry)),(.int .i64),(.int .i64),(.sl (.st SI.m5)),(.sl (.int .i64)),(.int .i64),(.sl (.st SI.Phase)),(.sl (.st SI.km)),(.sl .str)]
 |.site=>[(.sl (.st SI.Def)),(.sl (.st SI.Table)),(.sl (.st SI.Zone)),(.sl (.st SI.Rule)),(.sl (.st SI.Cap)),(.sl (.st SI.View)),(.sl (.st SI.hZ)),(.int .i64),(.sl (.st SI.m5)),(.sl (.st SI.km))]
 |.nr=>[.str,.str,.str,.str,.str,.str]
 |.lL=>[(.int .i64),(.int .i64),(.sl (.st SI.m5))]
 |.il=>[(.int .i64),(.int .i64),(.int .i64),(.int .i64)]
 |.nw=>[(.int .i64),(.int .i64),(.int .i64),(.int .i64)]
 |.ff=>[(.int .i64),(.int .i64)]
def arF:(i:SI)->TT i->HL se (aqy i)
 |.Expr,x=>(x.op,x.n,x.s,x.key,x.args,())
 |.Rule,x=>(x.name,x.zones,x.except,x.from_,x.j8,x.At,x.vary,x.kind,x.lw,x.m8,x.m7,x.ky,x.gO,x.jn,x.jp,x.kA,x.kB,x.uses,x.other,x.n,())
 |.Def,x=>(x.name,x.eW,x.gp,x.fW,x.ep,x.c8,())
 |.Entry,x=>(x.name,x.n,())
 |.Table,x=>(x.name,x.rows,x.sL,())
 |.iv,x=>(x.x,x.y,())
 |.Zone,x=>(x.name,x.overlay,x.corners,())
 |.Cap,x=>(x.name,x.load,x.limit,x.corners,())
 |.hZ,x=>(x.x,x.y,x.z,())
 |.View,x=>(x.name,x.AF,x.AE,x.AD,x.least,x.targets,())
 |.m5,x=>(x.x0,x.y0,x.x1,x.y1,())
 |.Lot,x=>(x.id,x.owner,x.area,x.from_,())
 |.fR,x=>(x.lot,x.area,x.top,())
 |.Window,x=>(x.lot,x.k8,x.k7,x.Mo,())
 |.ia,x=>(x.lot,x.eS,x.eQ,x.eR,x.eM,x.lP,x.lO,x.fS,x.mA,x.mC,())
 |.kw,x=>(x.cj,x.bp,x.aw,x.az,x.cm,x.b8,x.cD,x.b9,x.land,x.cC,x.windows,x.built,x.base,())
 |.graph,x=>(x.defs,x.uses,())
 |.vd,x=>(x.defs,x.tables,x.zones,x.rules,x.caps,x.views,x.vh,x.hours,())
 |.side,x=>(x.mj,x.qe,x.m4,x.uC,())
 |.ix,x=>(x.co,x.bx,x.bm,x.cg,x.cp,x.ca,x.cy,x.ci,x.fm,x.dc,x.eb,x.du,x.fp,x.day,())
 |.Finding,x=>(x.kind,x.lot,x.names,x.i8,x.i7,x.ft,x.fY,x.k8,x.k7,())
 |.span,x=>(x.from_,x.to,())
 |.strip,x=>(x.x0,x.x1,x.column,())
 |.lf,x=>(x.lot,x.use,x.floors,x.cE,())
 |.km,x=>(x.bu,x.cw,x.br,x.ct,x.fg,x.ek,x.use,x.units,x.extra,())
 |.Phase,x=>(x.cP,x.gives,())
 |.er,x=>(x.lot,x.phases,())
 |.GS,x=>(x.pj,x.pf,x.pg,x.pd,x.z0,x.z1,())
 |.li,x=>(x.co,x.bx,x.bm,x.cg,x.cp,x.ca,x.cy,x.ci,x.fm,x.dc,x.eb,x.du,x.fp,x.tj,x.nh,x.lp,x.px,x.eo,x.jt,x.cP,x.zones,())
 |.site,x=>(x.cj,x.bp,x.aw,x.az,x.cm,x.b8,x.cD,x.b9,x.area,x.cP,())
 |.nr,x=>(x.a0,x.a1,x.a2,x.a3,x.a4,x.a5,())
 |.lL,x=>(x.z0,x.z1,x.area,())
 |.il,x=>(x.side,x.base,x.num,x.den,())
 |.nw,x=>(x.a0,x.a1,x.a2,x.a3,())
 |.ff,x=>(x.a0,x.a1,())
def aq7:(i:SI)->HL se (aqy i)->TT i
 |.Expr,h=>⟨h.1,h.2.1,h.2.2.1,h.2.2.2.1,h.2.2.2.2.1⟩
 |.Rule,h=>⟨h.1,h.2.1,h.2.2.1,h.2.2.2.1,h.2.2.2.2.1,h.2.2.2.2.2.1,h.2.2.2.2.2.2.1,h.2.2.2.2.2.2.2.1,h.2.2.2.2.2.2.2.2.1,h.2.2.2.2.2.2.2.2.2.1,h.2.2.2.2.2.2.2.2.2.2.1,h.2.2.2.2.2.2.2.2.2.2.2.1,h.2.2.2.2.2.2.2.2.2.2.2.2.1,h.2.2.2.2.2.2.2.2.2.2.2.2.2.1,h.2.2.2.2.2.2.2.2.2.2.2.2.2.2.1,h.2.2.2.2.2.2.2.2.2.2.2.2.2.2.2.1,h.2.2.2.2.2.2.2.2.2.2.2.2.2.2.2.2.1,h.2.2.2.2.2.2.2.2.2.2.2.2.2.2.2.2.2.1,h.2.2.2.2.2.2.2.2.2.2.2.2.2.2.2.2.2.2.1,h.2.2.2.2.2.2.2.2.2.2.2.2.2.2.2.2.2.2.2.1⟩
 |.Def,h=>⟨h.1,h.2.1,h.2.2.1,h.2.2.2.1,h.2.2.2.2.1,h.2.2.2.2.2.1⟩
 |.Entry,h=>⟨h.1,h.2.1⟩
 |.Table,h=>⟨h.1,h.2.1,h.2.2.1⟩
 |.iv,h=>⟨h.1,h.2.1⟩
 |.Zone,h=>⟨h.1,h.2.1,h.2.2.1⟩
 |.Cap,h=>⟨h.1,h.2.1,h.2.2.1,h.2.2.2.1⟩
 |.hZ,h=>⟨h.1,h.2.1,h.2.2.1⟩
 |.View,h=>⟨h.1,h.2.1,h.2.2.1,h.2.2.2.1,h.2.2.2.2.1,h.2.2.2.2.2.1⟩
 |.m5,h=>⟨h.1,h.2.1,h.2.2.1,h.2.2.2.1⟩
 |.Lot,h=>⟨h.1,h.2.1,h.2.2.1,h.2.2.2.1⟩
 |.fR,h=>⟨h.1,h.2.1,h.2.2.1⟩
 |.Window,h=>⟨h.1,h.2.1,h.2.2.1,h.2.2.2.1⟩
 |.ia,h=>⟨h.1,h.2.1,h.2.2.1,h.2.2.2.1,h.2.2.2.2.1,h.2.2.2.2.2.1,h.2.2.2.2.2.2.1,h.2.2.2.2.2.2.2.1,h.2.2.2.2.2.2.2.2.1,h.2.2.2.2.2.2.2.2.2.1⟩
 |.kw,h=>⟨h.1,h.2.1,h.2.2.1,h.2.2.2.1,h.2.2.2.2.1,h.2.2.2.2.2.1,h.2.2.2.2.2.2.1,h.2.2.2.2.2.2.2.1,h.2.2.2.2.2.2.2.2.1,h.2.2.2.2.2.2.2.2.2.1,h.2.2.2.2.2.2.2.2.2.2.1,h.2.2.2.2.2.2.2.2.2.2.2.1,h.2.2.2.2.2.2.2.2.2.2.2.2.1⟩
 |.graph,h=>⟨h.1,h.2.1⟩
 |.vd,h=>⟨h.1,h.2.1,h.2.2.1,h.2.2.2.1,h.2.2.2.2.1,h.2.2.2.2.2.1,h.2.2.2.2.2.2.1,h.2.2.2.2.2.2.2.1⟩
 |.side,h=>⟨h.1,h.2.1,h.2.2.1,h.2.2.2.1⟩
 |.ix,h=>⟨h.1,h.2.1,h.2.2.1,h.2.2.2.1,h.2.2.2.2.1,h.2.2.2.2.2.1,h.2.2.2.2.2.2.1,h.2.2.2.2.2.2.2.1,h.2.2.2.2.2.2.2.2.1,h.2.2.2.2.2.2.2.2.2.1,h.2.2.2.2.2.2.2.2.2.2.1,h.2.2.2.2.2.2.2.2.2.2.2.1,h.2.2.2.2.2.2.2.2.2.2.2.2.1,h.2.2.2.2.2.2.2.2.2.2.2.2.2.1⟩
 |.Finding,h=>⟨h.1,h.2.1,h.2.2.1,h.2.2.2.1,h.2.2.2.2.1,h.2.2.2.2.2.1,h.2.2.2.2.2.2.1,h.2.2.2.2.2.2.2.1,h.2.2.2.2.2.2.2.2.1⟩
 |.span,h=>⟨h.1,h.2.1⟩
 |.strip,h=>⟨h.1,h.2.1,h.2.2.1⟩
 |.lf,h=>⟨h.1,h.2.1,h.2.2.1,h.2.2.2.1⟩
 |.km,h=>⟨h.1,h.2.1,h.2.2.1,h.2.2.2.1,h.2.2.2.2.1,h.2.2.2.2.2.1,h.2.2.2.2.2.2.1,h.2.2.2.2.2.2.2.1,h.2.2.2.2.2.2.2.2.1⟩
 |.Phase,h=>⟨h.1,h.2.1⟩
 |.er,h=>⟨h.1,h.2.1⟩
 |.GS,h=>⟨h.1,h.2.1,h.2.2.1,h.2.2.2.1,h.2.2.2.2.1,h.2.2.2.2.2.1⟩
 |.li,h=>⟨h.1,h.2.1,h.2.2.1,h.2.2.2.1,h.2.2.2.2.1,h.2.2.2.2.2.1,h.2.2.2.2.2.2.1,h.2.2.2.2.2.2.2.1,h.2.2.2.2.2.2.2.2.1,h.2.2.2.2.2.2.2.2.2.1,h.2.2.2.2.2.2.2.2.2.2.1,h.2.2.2.2.2.2.2.2.2.2.2.1,h.2.2.2.2.2.2.2.2.2.2.2.2.1,h.2.2.2.2.2.2.2.2.2.2.2.2.2.1,h.2.2.2.2.2.2.2.2.2.2.2.2.2.2.1,h.2.2.2.2.2.2.2.2.2.2.2.2.2.2.2.1,h.2.2.2.2.2.2.2.2.2.2.2.2.2.2.2.2.1,h.2.2.2.2.2.2.2.2.2.2.2.2.2.2.2.2.2.1,h.2.2.2.2.2.2.2.2.2.2.2.2.2.2.2.2.2.2.1,h.2.2.2.2.2.2.2.2.2.2.2.2.2.2.2.2.2.2.2.1,h.2.2.2.2.2.2.2.2.2.2.2.2.2.2.2.2.2.2.2.2.1⟩
 |.site,h=>⟨h.1,h.2.1,h.2.2.1,h.2.2.2.1,h.2.2.2.2.1,h.2.2.2.2.2.1,h.2.2.2.2.2.2.1,h.2.2.2.2.2.2.2.1,h.2.2.2.2.2.2.2.2.1,h.2.2.2.2.2.2.2.2.2.1⟩
 |.nr,h=>⟨h.1,h.2.1,h.2.2.1,h.2.2.2.1,h.2.2.2.2.1,h.2.2.2.2.2.1⟩
 |.lL,h=>⟨h.1,h.2.1,h.2.2.1⟩
 |.il,h=>⟨h.1,h.2.1,h.2.2.1,h.2.2.2.1⟩
 |.nw,h=>⟨h.1,h.2.1,h.2.2.1,h.2.2.2.1⟩
 |.ff,h=>⟨h.1,h.2.1⟩
def gvS:Nat->Option ((c:CT SI)×CT.T se c):=λ_=>none
def xx:SX:={ toSE:=se,da:=aqy,get:=arF,make:=aq7,mL:=by intro i x;cases i<;>first|rfl|exact XA _,ii:=by intro i h;cases i<;>first|rfl|exact XA _,flat:=by intro i;cases i<;>rfl,gv:=gvS,As:=λ_=>rfl }
abbrev dg:Value:=.slice none 0 0
abbrev dE:Value:=.int .i64 0
abbrev H0:Value:=.bool false
abbrev mn:Value:=.string ⟨#[]⟩
def tab:List (TypeId×ox):=[
 (2,⟨1,8,false,[dE],.int .i64,[]⟩),
 (3,⟨1,8,false,[dE],.int .i64,[]⟩),
 (4,⟨1,1,false,[H0],.bool,[]⟩),
 (9,⟨1,16,false,[mn],.str,[]⟩),
 (22,⟨1,24,false,[dg],.slice 67,[]⟩),
 (23,⟨1,24,false,[dg],.slice 112,[]⟩),
 (24,⟨1,24,false,[dg],.slice 93,[]⟩),
 (25,⟨1,24,false,[dg],.slice 65,[]⟩),
 (26,⟨1,24,false,[dg],.slice 114,[]⟩),
 (27,⟨1,24,false,[dg],.slice 400,[]⟩),
 (28,⟨1,24,false,[dg],.slice 398,[]⟩),
 (30,⟨8,176,true,[dg,dg,dg,dg,dg,dg,dg,dE],.struct [(0,22),(1,23),(2,24),(3,25),(4,26),(5,27),(6,28),(7,3)],[]⟩),
 (31,⟨1,24,false,[dg],.slice 43,[]⟩),
 (32,⟨1,24,false,[dg],.slice 75,[]⟩),
 (33,⟨1,24,false,[dg],.slice 402,[]⟩),
 (34,⟨1,24,false,[dg],.slice 258,[]⟩),
 (35,⟨1,24,false,[dg],.slice 238,[]⟩),
 (37,⟨13,296,true,[dg,dg,dg,dg,dg,dg,dg,dE,dg,dg,dg,dg,dg],.struct [(0,30),(8,31),(9,32),(10,33),(11,34),(12,35)],[]⟩),
 (40,⟨1,24,false,[dg],.slice 90,[]⟩),
 (41,⟨1,24,false,[dg],.slice 3,[]⟩),
 (43,⟨4,64,true,[dE,dE,dg,dg],.struct [(0,3),(1,3),(2,40),(3,41)],[]⟩),
 (44,⟨1,24,false,[dg],.slice 54,[]⟩),
 (48,⟨1,24,false,[dg],.slice 9,[]⟩),
 (50,⟨4,32,true,[dE,dE,dE,dE],.struct [(0,3),(1,3),(2,3),(3,3)],[0,0,0,0]⟩),
 (52,⟨2,16,true,[dE,dE],.struct [(0,3),(1,3)],[0,0]⟩),
 (54,⟨9,88,true,[dE,dE,dg,dE,dE,dE,dE,dE,dE],.struct [(0,3),(1,3),(2,48),(3,50),(7,52)],[]⟩),
 (58,⟨1,24,false,[dg],.slice 60,[]⟩),
 (60,⟨5,72,true,[dE,dE,mn,mn,dg],.struct [(0,3),(1,3),(2,9),(3,9),(4,58)],[]⟩),
 (63,⟨4,32,true,[dE,dE,dE,dE],.struct [(0,3),(1,3),(2,3),(3,3)],[0,0,0,0]⟩),
 (65,⟨20,232,true,[mn,dg,dg,dE,dE,dE,H0,dE,dE,dE,mn,mn,dg,dE,dE,dE,dE,dE,dE,dE],.struct [(0,9),(1,48),(2,48),(3,3),(4,3),(5,3),(6,4),(7,3),(8,60),(13,63),(17,3),(18,3),(19,3)],[]⟩),
 (67,⟨6,88,true,[mn,dE,dE,mn,mn,dg],.struct [(0,9),(1,60)],[]⟩),
 (75,⟨3,40,true,[dE,dg,dE],.struct [(0,3),(1,40),(2,3)],[]⟩),
 (77,⟨14,304,true,[dg,dg,dg,dg,dg,dg,dg,dE,dg,dg,dg,dg,dg,dE],.struct [(0,37),(13,3)],[]⟩),
 (79,⟨1,8,false,[.map none],.map 3 4,[]⟩),
 (90,⟨4,32,true,[dE,dE,dE,dE],.struct [(0,3),(1,3),(2,3),(3,3)],[0,0,0,0]⟩),
 (91,⟨1,24,false,[dg],.slice 52,[]⟩),
 (93,⟨3,48,true,[mn,H0,dg],.struct [(0,9),(1,4),(2,91)],[]⟩),
 (96,⟨1,24,false,[dg],.slice 50,[]⟩),
 (99,⟨1,24,false,[dg],.slice 146,[]⟩),
 (101,⟨2,32,true,[dE,dg],.struct [(0,3),(1,99)],[]⟩),
 (112,⟨3,48,true,[mn,dg,dE],.struct [(0,9),(1,35),(2,3)],[]⟩),
 (114,⟨4,56,true,[mn,dE,dE,dg],.struct [(0,9),(1,3),(2,3),(3,91)],[]⟩),
 (118,⟨1,8,false,[.map none],.map 9 4,[]⟩),
 (124,⟨1,24,false,[dg],.slice 40,[]⟩),
 (130,⟨1,8,false,[.map none],.map 133 3,[]⟩),
 (133,⟨2,16,true,[dE,dE],.arr 2 3,[]⟩),
 (134,⟨1,8,false,[.nilFunc],.other,[]⟩),
 (141,⟨6,48,true,[dE,dE,dE,dE,dE,dE],.struct [(0,90),(4,3),(5,3)],[]⟩),
 (143,⟨9,72,true,[dE,dE,dE,dE,dE,dE,dE,dE,H0],.struct [(0,141),(6,3),(7,3),(8,4)],[]⟩),
 (144,⟨1,24,false,[dg],.slice 143,[]⟩),
 (146,⟨2,48,true,[dg,dg],.struct [(0,144),(1,35)],[]⟩),
 (148,⟨21,440,true,[dg,dg,dg,dg,dg,dg,dg,dE,dg,dg,dg,dg,dg,dE,dE,dg,dg,dE,dg,dg,dg],.struct [(0,37),(13,43),(17,101),(19,144),(20,48)],[]⟩),
 (156,⟨1,24,false,[dg],.slice 204,[]⟩),
 (162,⟨1,8,false,[.map none],.map 9 3,[]⟩),
 (163,⟨1,24,false,[dg],.slice 41,[]⟩),
 (165,⟨2,48,true,[dg,dg],.struct [(0,22),(1,163)],[]⟩),
 (168,⟨1,24,false,[dg],.slice 4,[]⟩),
 (189,⟨1,8,false,[.int .u64 0],.int .u64,[]⟩),
 (198,⟨1,24,false,[dg],.slice 63,[]⟩),
 (204,⟨3,40,true,[dE,dE,dg],.struct [(0,3),(1,3),(2,40)],[]⟩),
 (213,⟨1,24,false,[dg],.slice 216,[]⟩),
 (216,⟨4,32,true,[dE,dE,dE,dE],.struct [(0,52),(2,52)],[]⟩),
 (219,⟨1,24,false,[dg],.slice 278,[]⟩),
 (238,⟨2,24,true,[mn,dE],.struct [(0,9),(1,3)],[2,0]⟩),
 (243,⟨10,208,true,[dg,dg,dg,dg,dg,dg,dg,dE,.map none,dg],.struct [(0,30),(8,162),(9,48)],[]⟩),
 (246,⟨1,8,false,[.pointer none],.other,[]⟩),
 (248,⟨10,224,true,[dg,dg,dg,dg,dg,dg,dg,dE,dg,dg],.struct [(0,30),(8,40),(9,144)],[]⟩),
 (250,⟨1,8,false,[.nilFunc],.other,[]⟩),
 (252,⟨2,24,true,[mn,.nilFunc],.struct [(0,9),(1,250)],[]⟩),
 (253,⟨18,216,true,[mn,.nilFunc,mn,.nilFunc,mn,.nilFunc,mn,.nilFunc,mn,.nilFunc,mn,.nilFunc,mn,.nilFunc,mn,.nilFunc,mn,.nilFunc],.arr 9 252,[]⟩),
 (258,⟨10,80,true,[dE,dE,dE,dE,dE,dE,dE,dE,dE,H0],.struct [(0,3),(1,143)],[]⟩),
 (274,⟨1,24,false,[dg],.slice 276,[]⟩),
 (276,⟨2,16,true,[dE,dE],.struct [(0,3),(1,3)],[0,0]⟩),
 (278,⟨3,40,true,[dE,dE,dg],.struct [(0,3),(1,3),(2,274)],[]⟩),
 (344,⟨4,32,true,[dE,dE,dE,dE],.arr 4 3,[]⟩),
 (355,⟨1,24,false,[dg],.slice 274,[]⟩),
 (366,⟨6,96,true,[mn,mn,mn,mn,mn,mn],.arr 6 9,[]⟩),
 (398,⟨3,24,true,[dE,dE,dE],.struct [(0,3),(1,3),(2,3)],[0,0,0]⟩),
 (400,⟨6,72,true,[mn,dE,dE,dE,dE,dg],.struct [(0,9),(1,398),(4,3),(5,28)],[]⟩),
 (402,⟨4,32,true,[dE,dE,dE,dE],.struct [(0,3),(1,398)],[]⟩)]
def aq8:List (TypeId×CT SI):=[(3,(.int .i64)),(4,.bool),(9,.str),(40,(.sl (.st SI.m5))),(43,(.st SI.Lot)),(50,(.st SI.lf)),(52,(.st SI.iv)),(54,(.st SI.Finding)),(60,(.st SI.Expr)),(63,(.st SI.il)),(65,(.st SI.Rule)),(67,(.st SI.Def)),(90,(.st SI.m5)),(93,(.st SI.Zone)),(133,(.st SI.ff)),(143,(.st SI.km)),(146,(.st SI.Phase)),(204,(.st SI.lL)),(216,(.st SI.side)),(238,(.st SI.Entry)),(274,(.sl (.st SI.span))),(276,(.st SI.span)),(278,(.st SI.strip))]
def ap2:TypeId->Option (CT xx.ι):=lk aq8
theorem Sf:fw Tryz.prog (R9 tab):=amh (by kernel_rfl)
theorem mixed:Tryz.prog.follows .mixedOrders=true:=Checked.mixed Tryz.checked
theorem cq{f:FuncId}{fn:Func}{l:List (FuncId×cx xx)}(hΓ:td Tryz.prog (yf l))(hfn:Tryz.prog.funcs[f]? =some fn){s:cx xx}(h:Hn SI)(n:Nat)
 (hq : (fn.body.isSome && !(fn.name == "runtime.NumGoroutine") && decide (s.args.length <= fn.ntmps /\ wS s.args <= 1000 /\ (s.res.filter RT.out).length = wS s.args)) = true := by kernel_rfl) (hg : s.gen = none := by rfl)
 (hr:∀a,run (yf l) (R9 tab) ap2 fn.ntmps n (fn.body.getD .skip) (tK xx s.res) h (B5 s.args a) (aqY (R9 tab) fn.results.toList s.res)=s.fn a:=by intro _;kernel_rfl):Bm Tryz.prog f s:=by
 rw[bK,bK]at hq;obtain⟨⟨q1,q2⟩,q3⟩:=hq;have hb:fn.body=some (fn.body.getD .skip):=by
  cases hc:fn.body with
  |none=>rw[hc]at q1;cases q1
  |some c=>rfl
 have hn : (fn.name == "runtime.NumGoroutine") = false := by simpa using q2
 exact yn (nN hfn hb hn) (λ a _ e=>aqZ Sf mixed hΓ hfn hb hn _ _ (of_decide_eq_true q3) h n ((hr a).trans e)) hg
theorem pc{f:FuncId}{fn:Func}{l:List (FuncId×cx xx)}(hΓ:td Tryz.prog (yf l))(hfn:Tryz.prog.funcs[f]? =some fn){g:dp xx}(h:Hn SI)(n:Nat)
 (hq : (fn.body.isSome && !(fn.name == "runtime.NumGoroutine") && decide (g.p7.length <= fn.ntmps) && g.B6) = true)
 (hr:∀v,run (yf l) (R9 tab) ap2 fn.ntmps n (fn.body.getD .skip) (VT (X:=xx) (AA g).vars) h (Hs g v) (apW (R9 tab) fn.results.toList g)=g.fn v):Bm Tryz.prog f ⟨[],[.d .bool],λ_=>none,some g⟩:=by
 rw[bK,bK,bK]at hq;obtain⟨⟨⟨q1,q2⟩,q3⟩,q4⟩:=hq;have hb:fn.body=some (fn.body.getD .skip):=by
  cases hc:fn.body with
  |none=>rw[hc]at q1;cases q1
  |some c=>rfl
 have hn : (fn.name == "runtime.NumGoroutine") = false := by simpa using q2
 exact P1 (nN hfn hb hn) (aqm Sf mixed hΓ hfn hb hn g (of_decide_eq_true q3) q4 h n (λ v _ e=>(hr v).trans e))
theorem gcn:td Tryz.prog (yf ([]:List (FuncId×cx xx))):=aA
abbrev af:CT SI:=.int .i64
abbrev aY:CT SI:=.st SI.Rule
abbrev bC:CT SI:=.st SI.Def
abbrev aV:CT SI:=.st SI.Table
abbrev bG:CT SI:=.st SI.Zone
abbrev bL:CT SI:=.st SI.Cap
abbrev aT:CT SI:=.st SI.hZ
abbrev bJ:CT SI:=.st SI.View
abbrev ay:CT SI:=.st SI.m5
abbrev gB:CT SI:=.st SI.Lot
abbrev ic:CT SI:=.st SI.vd
abbrev fA:CT SI:=.st SI.Finding
abbrev eO:CT SI:=.st SI.lf
abbrev aD:CT SI:=.st SI.km
abbrev aJ(f:Nat)(s:cx xx):Prop:=Bm Tryz.prog f s
abbrev iJ:=(List fB)×(List dJ)×(List eX)×(List cK)×(List jP)×(List iP)×(List dN)×Int×(List ax)×(List aF)
end Go.Proofs
