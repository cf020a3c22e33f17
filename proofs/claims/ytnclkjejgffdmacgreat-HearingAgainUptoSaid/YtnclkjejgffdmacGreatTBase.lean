import Derived.Test.YtnclkjejgffdmacGreatH1
import Derived.Test.YtnclkjejgffdmacGreatChecked
namespace Go.Proofs
open Go.Gb Go.RowKit
structure dD where
 op:Int
 n:Int
 s:ByteArray
 key:ByteArray
 args:(List dD)
mutual
def sV:dD->List Tree
 |⟨f0,f1,f2,f3,f4⟩=>[.sc (.int .i64 f0),.sc (.int .i64 f1),.sc (.string f2),.sc (.string f3),.sl (uM f4)]
def uM:List dD->List (List Tree)
 |[]=>[]
 |x::xs=>sV x::uM xs
end
theorem uN:∀l:Y dD,uM l=l.map sV
 |[]=>rfl
 |x::xs=>by rw[uM,uN xs];rfl
theorem Yj(x:dD):sV x=[.sc (.int .i64 x.op),.sc (.int .i64 x.n),.sc (.string x.s),.sc (.string x.key),.sl (x.args.map sV)]:=by cases x;simp only[sV,uN]
structure gW where
 name:ByteArray
 j8:Int
 mS:Int
 lL:ByteArray
 ju:ByteArray
 fh:(List dD)
def Ci(x:gW):Y Tree:=[.sc (.string x.name),.sc (.int .i64 x.j8),.sc (.int .i64 x.mS),.sc (.string x.lL),.sc (.string x.ju),.sl (x.fh.map sV)]
structure bg where
 name:ByteArray
 n:Int
 deriving DecidableEq,Inhabited
def DX(x:bg):Y Tree:=[.sc (.string x.name),.sc (.int .i64 x.n)]
structure bQ where
 name:ByteArray
 rows:(List bg)
 sk:Int
 deriving DecidableEq,Inhabited
def DY(x:bQ):Y Tree:=[.sc (.string x.name),.sl (x.rows.map DX),.sc (.int .i64 x.sk)]
structure eD where
 x:Int
 y:Int
 deriving DecidableEq,Inhabited
def Yk(x:eD):Y Tree:=[.sc (.int .i64 x.x),.sc (.int .i64 x.y)]
structure fO where
 name:ByteArray
 overlay:Bool
 corners:(List eD)
 deriving DecidableEq,Inhabited
def Ky(x:fO):Y Tree:=[.sc (.string x.name),.sc (.bool x.overlay),.sl (x.corners.map Yk)]
structure dw where
 name:ByteArray
 zones:(List ByteArray)
 except:(List ByteArray)
 from_:Int
 lr:Int
 B9:Int
 vary:Bool
 kind:Int
 l4:Int
 ov:Int
 ot:ByteArray
 kA:ByteArray
 gO:(List dD)
 jj:Int
 jn:Int
 kB:Int
 kO:Int
 uses:Int
 other:Int
 n:Int
def xg(x:dw):Y Tree:=[.sc (.string x.name),.sl (x.zones.map (λ y=>[.sc (.string y)])),.sl (x.except.map (λ y=>[.sc (.string y)])),.sc (.int .i64 x.from_),.sc (.int .i64 x.lr),.sc (.int .i64 x.B9),.sc (.bool x.vary),.sc (.int .i64 x.kind),.sc (.int .i64 x.l4),.sc (.int .i64 x.ov),.sc (.string x.ot),.sc (.string x.kA),.sl (x.gO.map sV),.sc (.int .i64 x.jj),.sc (.int .i64 x.jn),.sc (.int .i64 x.kB),.sc (.int .i64 x.kO),.sc (.int .i64 x.uses),.sc (.int .i64 x.other),.sc (.int .i64 x.n)]
structure jI where
 name:ByteArray
 load:Int
 limit:Int
 corners:(List eD)
 deriving DecidableEq,Inhabited
def Fw(x:jI):Y Tree:=[.sc (.string x.name),.sc (.int .i64 x.load),.sc (.int .i64 x.limit),.sl (x.corners.map Yk)]
structure dM where
 x:Int
 y:Int
 z:Int
 deriving DecidableEq,Inhabited
def wI(x:dM):Y Tree:=[.sc (.int .i64 x.x),.sc (.int .i64 x.y),.sc (.int .i64 x.z)]
structure iG where
 name:ByteArray
 CC:Int
 CA:Int
 Cp:Int
 least:Int
 targets:(List dM)
 deriving DecidableEq,Inhabited
def Kz(x:iG):Y Tree:=[.sc (.string x.name),.sc (.int .i64 x.CC),.sc (.int .i64 x.CA),.sc (.int .i64 x.Cp),.sc (.int .i64 x.least),.sl (x.targets.map wI)]
structure ax where
 x0:Int
 y0:Int
 x1:Int
 y1:Int
 deriving DecidableEq,Inhabited
def KA(x:ax):Y Tree:=[.sc (.int .i64 x.x0),.sc (.int .i64 x.y0),.sc (.int .i64 x.x1),.sc (.int .i64 x.y1)]
structure fM where
 id:Int
 owner:Int
 area:(List ax)
 from_:(List Int)
 deriving DecidableEq,Inhabited
def Jm(x:fM):Y Tree:=[.sc (.int .i64 x.id),.sc (.int .i64 x.owner),.sl (x.area.map KA),.sl (x.from_.map (λ y=>[.sc (.int .i64 y)]))]
structure lN where
 lot:Int
 area:(List ax)
 top:Int
 deriving DecidableEq,Inhabited
def Bl(x:lN):Y Tree:=[.sc (.int .i64 x.lot),.sl (x.area.map KA),.sc (.int .i64 x.top)]
structure OV where
 lot:Int
 N4:Int
 N3:Int
 N2:Int
 deriving DecidableEq,Inhabited
def KC(x:OV):Y Tree:=[.sc (.int .i64 x.lot),.sc (.int .i64 x.N4),.sc (.int .i64 x.N3),.sc (.int .i64 x.N2)]
structure jB where
 lot:Int
 eV:Int
 eR:Int
 eS:Int
 eQ:Int
 mw:Int
 mn:Int
 fY:Int
 m7:Int
 m8:Bool
 deriving DecidableEq,Inhabited
def KD(x:jB):Y Tree:=[.sc (.int .i64 x.lot),.sc (.int .i64 x.eV),.sc (.int .i64 x.eR),.sc (.int .i64 x.eS),.sc (.int .i64 x.eQ),.sc (.int .i64 x.mw),.sc (.int .i64 x.mn),.sc (.int .i64 x.fY),.sc (.int .i64 x.m7),.sc (.bool x.m8)]
structure aG where
 ct:Int
 cH:Int
 co:Int
 cE:Int
 fi:Int
 ez:Int
 use:Int
 units:Int
 extra:Bool
 deriving DecidableEq,Inhabited
def KE(x:aG):Y Tree:=[.sc (.int .i64 x.ct),.sc (.int .i64 x.cH),.sc (.int .i64 x.co),.sc (.int .i64 x.cE),.sc (.int .i64 x.fi),.sc (.int .i64 x.ez),.sc (.int .i64 x.use),.sc (.int .i64 x.units),.sc (.bool x.extra)]
structure lI where
 b9:(List aG)
 gives:(List bg)
 deriving DecidableEq,Inhabited
def zN(x:lI):Y Tree:=[.sl (x.b9.map KE),.sl (x.gives.map DX)]
structure bM where
 from_:Int
 to:Int
 deriving DecidableEq,Inhabited
def akh(x:bM):Y Tree:=[.sc (.int .i64 x.from_),.sc (.int .i64 x.to)]
structure yK where
 id:Int
 values:(List Int)
 grant:Bool
 deriving DecidableEq,Inhabited
def aki(x:yK):Y Tree:=[.sc (.int .i64 x.id),.sl (x.values.map (λ y=>[.sc (.int .i64 y)])),.sc (.bool x.grant)]
structure aK where
 gz:Int
 day:Int
 attacks:(List Int)
 ec:Int
 name:ByteArray
 n:Int
 deriving DecidableEq,Inhabited
def zO(x:aK):Y Tree:=[.sc (.int .i64 x.gz),.sc (.int .i64 x.day),.sl (x.attacks.map (λ y=>[.sc (.int .i64 y)])),.sc (.int .i64 x.ec),.sc (.string x.name),.sc (.int .i64 x.n)]
structure aC where
 bp:(List gW)
 aq:(List bQ)
 bj:(List fO)
 aw:(List dw)
 be:(List jI)
 bk:(List iG)
 b7:(List dM)
 bm:Int
 cQ:(List fM)
 cC:(List lN)
 cJ:(List OV)
 cN:(List jB)
 c8:(List bg)
 b8:Int
 bu:(List lI)
 rule:Int
 ed:Int
 eo:Int
 c7:(List Int)
 stays:(List bM)
 cases:(List yK)
 claims:(List aK)
def jJ(x:aC):Y Tree:=[.sl (x.bp.map Ci),.sl (x.aq.map DY),.sl (x.bj.map Ky),.sl (x.aw.map xg),.sl (x.be.map Fw),.sl (x.bk.map Kz),.sl (x.b7.map wI),.sc (.int .i64 x.bm),.sl (x.cQ.map Jm),.sl (x.cC.map Bl),.sl (x.cJ.map KC),.sl (x.cN.map KD),.sl (x.c8.map DX),.sc (.int .i64 x.b8),.sl (x.bu.map zN),.sc (.int .i64 x.rule),.sc (.int .i64 x.ed),.sc (.int .i64 x.eo),.sl (x.c7.map (λ y=>[.sc (.int .i64 y)])),.sl (x.stays.map akh),.sl (x.cases.map aki),.sl (x.claims.map zO)]
structure bO where
 defs:(List gW)
 tables:(List bQ)
 zones:(List fO)
 rules:(List dw)
 caps:(List jI)
 views:(List iG)
 xp:(List dM)
 hours:Int
def apv(x:bO):Y Tree:=[.sl (x.defs.map Ci),.sl (x.tables.map DY),.sl (x.zones.map Ky),.sl (x.rules.map xg),.sl (x.caps.map Fw),.sl (x.views.map Kz),.sl (x.xp.map wI),.sc (.int .i64 x.hours)]
structure aQ where
 lot:Int
 phases:(List lI)
 deriving DecidableEq,Inhabited
def wJ(x:aQ):Y Tree:=[.sc (.int .i64 x.lot),.sl (x.phases.map zN)]
structure aR where
 from_:Int
 to:Int
 deriving DecidableEq,Inhabited
def akj(x:aR):Y Tree:=[.sc (.int .i64 x.from_),.sc (.int .i64 x.to)]
structure bR where
 x0:Int
 x1:Int
 column:(List aR)
 deriving DecidableEq,Inhabited
def anM(x:bR):Y Tree:=[.sc (.int .i64 x.x0),.sc (.int .i64 x.x1),.sl (x.column.map akj)]
structure fq where
 cL:(List gW)
 cw:(List bQ)
 cz:(List fO)
 az:(List dw)
 cT:(List jI)
 cW:(List iG)
 d6:(List dM)
 cX:Int
 land:(List fM)
 cM:(List lN)
 windows:(List OV)
 built:(List jB)
 base:(List bg)
def Bn(x:fq):Y Tree:=[.sl (x.cL.map Ci),.sl (x.cw.map DY),.sl (x.cz.map Ky),.sl (x.az.map xg),.sl (x.cT.map Fw),.sl (x.cW.map Kz),.sl (x.d6.map wI),.sc (.int .i64 x.cX),.sl (x.land.map Jm),.sl (x.cM.map Bl),.sl (x.windows.map KC),.sl (x.built.map KD),.sl (x.base.map DX)]
structure aqk where
 cL:(List gW)
 cw:(List bQ)
 cz:(List fO)
 az:(List dw)
 cT:(List jI)
 cW:(List iG)
 d6:(List dM)
 cX:Int
 area:(List ax)
 b9:(List aG)
def apw(x:aqk):Y Tree:=[.sl (x.cL.map Ci),.sl (x.cw.map DY),.sl (x.cz.map Ky),.sl (x.az.map xg),.sl (x.cT.map Fw),.sl (x.cW.map Kz),.sl (x.d6.map wI),.sc (.int .i64 x.cX),.sl (x.area.map KA),.sl (x.b9.map KE)]
structure KF where
 a0:ByteArray
 a1:ByteArray
 a2:ByteArray
 a3:ByteArray
 a4:ByteArray
 a5:ByteArray
 deriving DecidableEq,Inhabited
def alv(x:KF):Y Tree:=[.sc (.string x.a0),.sc (.string x.a1),.sc (.string x.a2),.sc (.string x.a3),.sc (.string x.a4),.sc (.string x.a5)]
structure Hm where
 p5:Int
 pZ:Int
 p4:Int
 pT:Int
 z0:Int
 z1:Int
 deriving DecidableEq,Inhabited
def aqU(x:Hm):Y Tree:=[.sc (.int .i64 x.p5),.sc (.int .i64 x.pZ),.sc (.int .i64 x.p4),.sc (.int .i64 x.pT),.sc (.int .i64 x.z0),.sc (.int .i64 x.z1)]
structure jQ where
 mT:Int
 rj:Int
 np:Int
 xc:Int
 deriving DecidableEq,Inhabited
def apx(x:jQ):Y Tree:=[.sc (.int .i64 x.mT),.sc (.int .i64 x.rj),.sc (.int .i64 x.np),.sc (.int .i64 x.xc)]
structure nG where
 bp:(List gW)
 aq:(List bQ)
 bj:(List fO)
 aw:(List dw)
 be:(List jI)
 bk:(List iG)
 b7:(List dM)
 bm:Int
 cQ:(List fM)
 cC:(List lN)
 cJ:(List OV)
 cN:(List jB)
 c8:(List bg)
 ue:Int
 oA:Int
 ly:(List ax)
 qq:(List Int)
 b8:Int
 bu:(List lI)
 b9:(List aG)
 zones:(List ByteArray)
def anN(x:nG):Y Tree:=[.sl (x.bp.map Ci),.sl (x.aq.map DY),.sl (x.bj.map Ky),.sl (x.aw.map xg),.sl (x.be.map Fw),.sl (x.bk.map Kz),.sl (x.b7.map wI),.sc (.int .i64 x.bm),.sl (x.cQ.map Jm),.sl (x.cC.map Bl),.sl (x.cJ.map KC),.sl (x.cN.map KD),.sl (x.c8.map DX),.sc (.int .i64 x.ue),.sc (.int .i64 x.oA),.sl (x.ly.map KA),.sl (x.qq.map (λ y=>[.sc (.int .i64 y)])),.sc (.int .i64 x.b8),.sl (x.bu.map zN),.sl (x.b9.map KE),.sl (x.zones.map (λ y=>[.sc (.string y)]))]
structure qI where
 defs:(List gW)
 uses:(List (List Int))
def anO(x:qI):Y Tree:=[.sl (x.defs.map Ci),.sl (x.uses.map (λ y=>[.sl (y.map (λ y=>[.sc (.int .i64 y)]))]))]
structure gJ where
 z0:Int
 z1:Int
 area:(List ax)
 deriving DecidableEq,Inhabited
def apy(x:gJ):Y Tree:=[.sc (.int .i64 x.z0),.sc (.int .i64 x.z1),.sl (x.area.map KA)]
structure eu where
 side:Int
 base:Int
 num:Int
 den:Int
 deriving DecidableEq,Inhabited
def anP(x:eu):Y Tree:=[.sc (.int .i64 x.side),.sc (.int .i64 x.base),.sc (.int .i64 x.num),.sc (.int .i64 x.den)]
structure OW where
 a0:Int
 a1:Int
 a2:Int
 a3:Int
 deriving DecidableEq,Inhabited
def alx(x:OW):Y Tree:=[.sc (.int .i64 x.a0),.sc (.int .i64 x.a1),.sc (.int .i64 x.a2),.sc (.int .i64 x.a3)]
structure Jo where
 id:Int
 holder:Int
 state:Int
 day:Int
 rule:Int
 jt:(List aQ)
 choice:Int
 into:Int
 deriving DecidableEq,Inhabited
def aiC(x:Jo):Y Tree:=[.sc (.int .i64 x.id),.sc (.int .i64 x.holder),.sc (.int .i64 x.state),.sc (.int .i64 x.day),.sc (.int .i64 x.rule),.sl (x.jt.map wJ),.sc (.int .i64 x.choice),.sc (.int .i64 x.into)]
structure So where
 kind:Int
 day:Int
 n:Int
 jt:(List aQ)
 deriving DecidableEq,Inhabited
def aqV(x:So):Y Tree:=[.sc (.int .i64 x.kind),.sc (.int .i64 x.day),.sc (.int .i64 x.n),.sl (x.jt.map wJ)]
inductive SI where
 |Expr
 |Def
 |Entry
 |Table
 |j9
 |Zone
 |Rule
 |Cap
 |hZ
 |View
 |nw
 |Lot
 |fW
 |Window
 |ia
 |kw
 |Phase
 |nr
 |Case
 |Claim
 |fX
 |xe
 |i8
 |span
 |strip
 |pH
 |site
 |oT
 |HI
 |side
 |lv
 |graph
 |mm
 |io
 |oX
 |mj
 |Act
 deriving DecidableEq
@[reducible] def TT:SI->Type
 |.Expr=>dD
 |.Def=>gW
 |.Entry=>bg
 |.Table=>bQ
 |.j9=>eD
 |.Zone=>fO
 |.Rule=>dw
 |.Cap=>jI
 |.hZ=>dM
 |.View=>iG
 |.nw=>ax
 |.Lot=>fM
 |.fW=>lN
 |.Window=>OV
 |.ia=>jB
 |.kw=>aG
 |.Phase=>lI
 |.nr=>bM
 |.Case=>yK
 |.Claim=>aK
 |.fX=>aC
 |.xe=>bO
 |.i8=>aQ
 |.span=>aR
 |.strip=>bR
 |.pH=>fq
 |.site=>aqk
 |.oT=>KF
 |.HI=>Hm
 |.side=>jQ
 |.lv=>nG
 |.graph=>qI
 |.mm=>gJ
 |.io=>eu
 |.oX=>OW
 |.mj=>Jo
 |.Act=>So
def asr:(i:SI)->TT i->Y Tree
 |.Expr,x=>sV x
 |.Def,x=>Ci x
 |.Entry,x=>DX x
 |.Table,x=>DY x
 |.j9,x=>Yk x
 |.Zone,x=>Ky x
 |.Rule,x=>xg x
 |.Cap,x=>Fw x
 |.hZ,x=>wI x
 |.View,x=>Kz x
 |.nw,x=>KA x
 |.Lot,x=>Jm x
 |.fW,x=>Bl x
 |.Window,x=>KC x
 |.ia,x=>KD x
 |.kw,x=>KE x
 |.Phase,x=>zN x
 |.nr,x=>akh x
 |.Case,x=>aki x
 |.Claim,x=>zO x
 |.fX,x=>jJ x
 |.xe,x=>apv x
 |.i8,x=>wJ x
 |.span,x=>akj x
 |.strip,x=>anM x
 |.pH,x=>Bn x
 |.site,x=>apw x
 |.oT,x=>alv x
 |.HI,x=>aqU x
 |.side,x=>apx x
 |.lv,x=>anN x
 |.graph,x=>anO x
 |.mm,x=>apy x
 |.io,x=>anP x
 |.oX,x=>alx x
 |.mj,x=>aiC x
 |.Act,x=>aqV x
def se:SE:=⟨SI,inferInstance,TT,asr⟩
def aqW:SI->Y (CT SI)
 |.Expr=>[.int .i64,.int .i64,.str,.str,.sl (.st SI.Expr)]
 |.Def=>[.str,.int .i64,.int .i64,.str,.str,.sl (.st SI.Expr)]
 |.Entry=>[.str,.int .i64]
 |.Table=>[.str,.sl (.st SI.Entry),.int .i64]
 |.j9=>[.int .i64,.int .i64]
 |.Zone=>[.str,.bool,.sl (.st SI.j9)]
 |.Rule=>[.str,.sl .str,.sl .str,.int .i64,.int .i64,.int .i64,.bool,.int .i64,.int .i64,.int .i64,.str,.str,.sl (.st SI.Expr),.int .i64,.int .i64,.int .i64,.int .i64,.int .i64,.int .i64,.int .i64]
 |.Cap=>[.str,.int .i64,.int .i64,.sl (.st SI.j9)]
 |.hZ=>[.int .i64,.int .i64,.int .i64]
 |.View=>[.str,.int .i64,.int .i64,.int .i64,.int .i64,.sl (.st SI.hZ)]
 |.nw=>[.int .i64,.int .i64,.int .i64,.int .i64]
 |.Lot=>[.int .i64,.int .i64,.sl (.st SI.nw),.sl (.int .i64)]
 |.fW=>[.int .i64,.sl (.st SI.nw),.int .i64]
 |.Window=>[.int .i64,.int .i64,.int .i64,.int .i64]
 |.ia=>[.int .i64,.int .i64,.int .i64,.int .i64,.int .i64,.int .i64,.int .i64,.int .i64,.int .i64,.bool]
 |.kw=>[.int .i64,.int .i64,.int .i64,.int .i64,.int .i64,.int .i64,.int .i64,.int .i64,.bool]
 |.Phase=>[.sl (.st SI.kw),.sl (.st SI.Entry)]
 |.nr=>[.int .i64,.int .i64]
 |.Case=>[.int .i64,.sl (.int .i64),.bool]
 |.Claim=>[.int .i64,.int .i64,.sl (.int .i64),.int .i64,.str,.int .i64]
 |.fX=>[.sl (.st SI.Def),.sl (.st SI.Table),.sl (.st SI.Zone),.sl (.st SI.Rule),.sl (.st SI.Cap),.sl (.st SI.View),.sl (.st SI.hZ),.int .i64,.sl (.st SI.Lot),.sl (.st SI.fW),.sl (.st SI.Window),.sl (.st SI.ia),.sl (.st SI.Entry),.int .i64,.sl (.st SI.Phase),.int .i64,.int .i64,.int .i64,.sl (.int .i64),.sl (.st SI.nr),.sl (.st SI.Case),.sl (.st SI.Claim)]
 |.xe=>[.sl (.st SI.Def),.sl (.st SI.Table),.sl (.st SI.Zone),.sl (.st SI.Rule),.sl (.st SI.Cap),.sl (.st SI.View),.sl (.st SI.hZ),.int .i64]
 |.i8=>[.int .i64,.sl (.st SI.Phase)]
 |.span=>[.int .i64,.int .i64]
 |.strip=>[.int .i64,.int .i64,.sl (.st SI.span)]
 |.pH=>[.sl (.st SI.Def),.sl (.st SI.Table),.sl (.st SI.Zone),.sl (.st SI.Rule),.sl (.st SI.Cap),.sl (.st SI.View),.sl (.st SI.hZ),.int .i64,.sl (.st SI.Lot),.sl (.st SI.fW),.sl (.st SI.Window),.sl (.st SI.ia),.sl (.st SI.Entry)]
 |.site=>[.sl (.st SI.Def),.sl (.st SI.Table),.sl (.st SI.Zone),.sl (.st SI.Rule),.sl (.st SI.Cap),.sl (.st SI.View),.sl (.st SI.hZ),.int .i64,.sl (.st SI.nw),.sl (.st SI.kw)]
 |.oT=>[.str,.str,.str,.str,.str,.str]
 |.HI=>[.int .i64,.int .i64,.int .i64,.int .i64,.int .i64,.int .i64]
 |.side=>[.int .i64,.int .i64,.int .i64,.int .i64]
 |.lv=>[.sl (.st SI.Def),.sl (.st SI.Table),.sl (.st SI.Zone),.sl (.st SI.Rule),.sl (.st SI.Cap),.sl (.st SI.View),.sl (.st SI.hZ),.int .i64,.sl (.st SI.Lot),.sl (.st SI.fW),.sl (.st SI.Window),.sl (.st SI.ia),.sl (.st SI.Entry),.int .i64,.int .i64,.sl (.st SI.nw),.sl (.int .i64),.int .i64,.sl (.st SI.Phase),.sl (.st SI.kw),.sl .str]
 |.graph=>[.sl (.st SI.Def),.sl (.sl (.int .i64))]
 |.mm=>[.int .i64,.int .i64,.sl (.st SI.nw)]
 |.io=>[.int .i64,.int .i64,.int .i64,.int .i64]
 |.oX=>[.int .i64,.int .i64,.int .i64,.int .i64]
 |.mj=>[.int .i64,.int .i64,.int .i64,.int .i64,.int .i64,.sl (.st SI.i8),.int .i64,.int .i64]
 |.Act=>[.int .i64,.int .i64,.int .i64,.sl (.st SI.i8)]
def ast:(i:SI)->TT i->HL se (aqW i)
 |.Expr,x=>(x.op,x.n,x.s,x.key,x.args,())
 |.Def,x=>(x.name,x.j8,x.mS,x.lL,x.ju,x.fh,())
 |.Entry,x=>(x.name,x.n,())
 |.Table,x=>(x.name,x.rows,x.sk,())
 |.j9,x=>(x.x,x.y,())
 |.Zone,x=>(x.name,x.overlay,x.corners,())
 |.Rule,x=>(x.name,x.zones,x.except,x.from_,x.lr,x.B9,x.vary,x.kind,x.l4,x.ov,x.ot,x.kA,x.gO,x.jj,x.jn,x.kB,x.kO,x.uses,x.other,x.n,())
 |.Cap,x=>(x.name,x.load,x.limit,x.corners,())
 |.hZ,x=>(x.x,x.y,x.z,())
 |.View,x=>(x.name,x.CC,x.CA,x.Cp,x.least,x.targets,())
 |.nw,x=>(x.x0,x.y0,x.x1,x.y1,())
 |.Lot,x=>(x.id,x.owner,x.area,x.from_,())
 |.fW,x=>(x.lot,x.area,x.top,())
 |.Window,x=>(x.lot,x.N4,x.N3,x.N2,())
 |.ia,x=>(x.lot,x.eV,x.eR,x.eS,x.eQ,x.mw,x.mn,x.fY,x.m7,x.m8,())
 |.kw,x=>(x.ct,x.cH,x.co,x.cE,x.fi,x.ez,x.use,x.units,x.extra,())
 |.Phase,x=>(x.b9,x.gives,())
 |.nr,x=>(x.from_,x.to,())
 |.Case,x=>(x.id,x.values,x.grant,())
 |.Claim,x=>(x.gz,x.day,x.attacks,x.ec,x.name,x.n,())
 |.fX,x=>(x.bp,x.aq,x.bj,x.aw,x.be,x.bk,x.b7,x.bm,x.cQ,x.cC,x.cJ,x.cN,x.c8,x.b8,x.bu,x.rule,x.ed,x.eo,x.c7,x.stays,x.cases,x.claims,())
 |.xe,x=>(x.defs,x.tables,x.zones,x.rules,x.caps,x.views,x.xp,x.hours,())
 |.i8,x=>(x.lot,x.phases,())
 |.span,x=>(x.from_,x.to,())
 |.strip,x=>(x.x0,x.x1,x.column,())
 |.pH,x=>(x.cL,x.cw,x.cz,x.az,x.cT,x.cW,x.d6,x.cX,x.land,x.cM,x.windows,x.built,x.base,())
 |.site,x=>(x.cL,x.cw,x.cz,x.az,x.cT,x.cW,x.d6,x.cX,x.area,x.b9,())
 |.oT,x=>(x.a0,x.a1,x.a2,x.a3,x.a4,x.a5,())
 |.HI,x=>(x.p5,x.pZ,x.p4,x.pT,x.z0,x.z1,())
 |.side,x=>(x.mT,x.rj,x.np,x.xc,())
 |.lv,x=>(x.bp,x.aq,x.bj,x.aw,x.be,x.bk,x.b7,x.bm,x.cQ,x.cC,x.cJ,x.cN,x.c8,x.ue,x.oA,x.ly,x.qq,x.b8,x.bu,x.b9,x.zones,())
 |.graph,x=>(x.defs,x.uses,())
 |.mm,x=>(x.z0,x.z1,x.area,())
 |.io,x=>(x.side,x.base,x.num,x.den,())
 |.oX,x=>(x.a0,x.a1,x.a2,x.a3,())
 |.mj,x=>(x.id,x.holder,x.state,x.day,x.rule,x.jt,x.choice,x.into,())
 |.Act,x=>(x.kind,x.day,x.n,x.jt,())
def arO:(i:SI)->HL se (aqW i)->TT i
 |.Expr,(qa,qb,qc,qd,qe,_)=>⟨qa,qb,qc,qd,qe⟩
 |.Def,(qa,qb,qc,qd,qe,qf,_)=>⟨qa,qb,qc,qd,qe,qf⟩
 |.Entry,h=>⟨h.1,h.2.1⟩
 |.Table,h=>⟨h.1,h.2.1,h.2.2.1⟩
 |.j9,h=>⟨h.1,h.2.1⟩
 |.Zone,h=>⟨h.1,h.2.1,h.2.2.1⟩
 |.Rule,(qa,qb,qc,qd,qe,qf,qg,qh,qi,qj,qk,ql,qm,qn,qo,qp,qq,qr,qs,qt,_)=>⟨qa,qb,qc,qd,qe,qf,qg,qh,qi,qj,qk,ql,qm,qn,qo,qp,qq,qr,qs,qt⟩
 |.Cap,(qa,qb,qc,qd,_)=>⟨qa,qb,qc,qd⟩
 |.hZ,h=>⟨h.1,h.2.1,h.2.2.1⟩
 |.View,(qa,qb,qc,qd,qe,qf,_)=>⟨qa,qb,qc,qd,qe,qf⟩
 |.nw,(qa,qb,qc,qd,_)=>⟨qa,qb,qc,qd⟩
 |.Lot,(qa,qb,qc,qd,_)=>⟨qa,qb,qc,qd⟩
 |.fW,h=>⟨h.1,h.2.1,h.2.2.1⟩
 |.Window,(qa,qb,qc,qd,_)=>⟨qa,qb,qc,qd⟩
 |.ia,(qa,qb,qc,qd,qe,qf,qg,qh,qi,qj,_)=>⟨qa,qb,qc,qd,qe,qf,qg,qh,qi,qj⟩
 |.kw,(qa,qb,qc,qd,qe,qf,qg,qh,qi,_)=>⟨qa,qb,qc,qd,qe,qf,qg,qh,qi⟩
 |.Phase,h=>⟨h.1,h.2.1⟩
 |.nr,h=>⟨h.1,h.2.1⟩
 |.Case,h=>⟨h.1,h.2.1,h.2.2.1⟩
 |.Claim,(qa,qb,qc,qd,qe,qf,_)=>⟨qa,qb,qc,qd,qe,qf⟩
 |.fX,(qa,qb,qc,qd,qe,qf,qg,qh,qi,qj,qk,ql,qm,qn,qo,qp,qq,qr,qs,qt,qu,qv,_)=>⟨qa,qb,qc,qd,qe,qf,qg,qh,qi,qj,qk,ql,qm,qn,qo,qp,qq,qr,qs,qt,qu,qv⟩
 |.xe,(qa,qb,qc,qd,qe,qf,qg,qh,_)=>⟨qa,qb,qc,qd,qe,qf,qg,qh⟩
 |.i8,h=>⟨h.1,h.2.1⟩
 |.span,h=>⟨h.1,h.2.1⟩
 |.strip,h=>⟨h.1,h.2.1,h.2.2.1⟩
 |.pH,(qa,qb,qc,qd,qe,qf,qg,qh,qi,qj,qk,ql,qm,_)=>⟨qa,qb,qc,qd,qe,qf,qg,qh,qi,qj,qk,ql,qm⟩
 |.site,(qa,qb,qc,qd,qe,qf,qg,qh,qi,qj,_)=>⟨qa,qb,qc,qd,qe,qf,qg,qh,qi,qj⟩
 |.oT,(qa,qb,qc,qd,qe,qf,_)=>⟨qa,qb,qc,qd,qe,qf⟩
 |.HI,(qa,qb,qc,qd,qe,qf,_)=>⟨qa,qb,qc,qd,qe,qf⟩
 |.side,(qa,qb,qc,qd,_)=>⟨qa,qb,qc,qd⟩
 |.lv,(qa,qb,qc,qd,qe,qf,qg,qh,qi,qj,qk,ql,qm,qn,qo,qp,qq,qr,qs,qt,qu,_)=>⟨qa,qb,qc,qd,qe,qf,qg,qh,qi,qj,qk,ql,qm,qn,qo,qp,qq,qr,qs,qt,qu⟩
 |.graph,h=>⟨h.1,h.2.1⟩
 |.mm,h=>⟨h.1,h.2.1,h.2.2.1⟩
 |.io,(qa,qb,qc,qd,_)=>⟨qa,qb,qc,qd⟩
 |.oX,(qa,qb,qc,qd,_)=>⟨qa,qb,qc,qd⟩
 |.mj,(qa,qb,qc,qd,qe,qf,qg,qh,_)=>⟨qa,qb,qc,qd,qe,qf,qg,qh⟩
 |.Act,(qa,qb,qc,qd,_)=>⟨qa,qb,qc,qd⟩
def gvS:Nat->J ((c:CT SI)×CT.T se c):=λ_=>none
def xx:SX:={ toSE:=se,ej:=aqW,get:=ast,make:=arO,pL:=by intro i x;cases i<;>first|rfl|exact Yj _,ij:=by intro i h;cases i<;>first|rfl|exact Yj _,flat:=by intro i;cases i<;>rfl,gv:=gvS,B8:=λ_=>rfl }
abbrev dt:Value:=.slice none 0 0
abbrev d7:Value:=.int .i64 0
abbrev HK:Value:=.bool false
abbrev mC:Value:=.string ⟨#[]⟩
def tab:Y (TypeId×p6):=[
 (3,⟨1,8,false,[d7],.int .i64,[]⟩),
 (4,⟨1,1,false,[HK],.bool,[]⟩),
 (9,⟨1,16,false,[mC],.str,[]⟩),
 (22,⟨1,24,false,[dt],.slice 117,[]⟩),
 (23,⟨1,24,false,[dt],.slice 74,[]⟩),
 (24,⟨1,24,false,[dt],.slice 254,[]⟩),
 (25,⟨1,24,false,[dt],.slice 108,[]⟩),
 (26,⟨1,24,false,[dt],.slice 250,[]⟩),
 (27,⟨1,24,false,[dt],.slice 418,[]⟩),
 (28,⟨1,24,false,[dt],.slice 416,[]⟩),
 (30,⟨8,176,true,[dt,dt,dt,dt,dt,dt,dt,d7],.struct [(0,22),(1,23),(2,24),(3,25),(4,26),(5,27),(6,28),(7,3)],[]⟩),
 (31,⟨1,24,false,[dt],.slice 93,[]⟩),
 (32,⟨1,24,false,[dt],.slice 110,[]⟩),
 (33,⟨1,24,false,[dt],.slice 420,[]⟩),
 (34,⟨1,24,false,[dt],.slice 267,[]⟩),
 (35,⟨1,24,false,[dt],.slice 88,[]⟩),
 (37,⟨13,296,true,[dt,dt,dt,dt,dt,dt,dt,d7,dt,dt,dt,dt,dt],.struct [(0,30),(8,31),(9,32),(10,33),(11,34),(12,35)],[]⟩),
 (38,⟨1,24,false,[dt],.slice 100,[]⟩),
 (40,⟨2,32,true,[d7,dt],.struct [(0,3),(1,38)],[]⟩),
 (41,⟨1,24,false,[dt],.slice 3,[]⟩),
 (42,⟨1,24,false,[dt],.slice 48,[]⟩),
 (43,⟨1,24,false,[dt],.slice 85,[]⟩),
 (44,⟨1,24,false,[dt],.slice 62,[]⟩),
 (46,⟨22,448,true,[dt,dt,dt,dt,dt,dt,dt,d7,dt,dt,dt,dt,dt,d7,dt,d7,d7,d7,dt,dt,dt,dt],.struct [(0,37),(13,40),(15,3),(16,3),(17,3),(18,41),(19,42),(20,43),(21,44)],[]⟩),
 (48,⟨2,16,true,[d7,d7],.struct [(0,3),(1,3)],[0,0]⟩),
 (51,⟨1,24,false,[dt],.slice 4,[]⟩),
 (62,⟨6,72,true,[d7,d7,dt,d7,mC,d7],.struct [(0,3),(1,3),(2,41),(3,3),(4,9),(5,3)],[]⟩),
 (69,⟨1,24,false,[dt],.slice 40,[]⟩),
 (71,⟨8,80,true,[d7,d7,d7,d7,d7,dt,d7,d7],.struct [(0,3),(1,3),(2,3),(3,3),(4,3),(5,69),(6,3),(7,3)],[]⟩),
 (74,⟨3,48,true,[mC,dt,d7],.struct [(0,9),(1,35),(2,3)],[]⟩),
 (85,⟨3,40,true,[d7,dt,HK],.struct [(0,3),(1,41),(2,4)],[]⟩),
 (88,⟨2,24,true,[mC,d7],.struct [(0,9),(1,3)],[2,0]⟩),
 (90,⟨4,32,true,[d7,d7,d7,d7],.struct [(0,3),(1,3),(2,3),(3,3)],[0,0,0,0]⟩),
 (91,⟨1,24,false,[dt],.slice 90,[]⟩),
 (93,⟨4,64,true,[d7,d7,dt,dt],.struct [(0,3),(1,3),(2,91),(3,41)],[]⟩),
 (95,⟨6,48,true,[d7,d7,d7,d7,d7,d7],.struct [(0,90),(4,3),(5,3)],[]⟩),
 (97,⟨9,72,true,[d7,d7,d7,d7,d7,d7,d7,d7,HK],.struct [(0,95),(6,3),(7,3),(8,4)],[]⟩),
 (98,⟨1,24,false,[dt],.slice 97,[]⟩),
 (100,⟨2,48,true,[dt,dt],.struct [(0,98),(1,35)],[]⟩),
 (101,⟨1,24,false,[dt],.slice 9,[]⟩),
 (102,⟨1,24,false,[dt],.slice 104,[]⟩),
 (104,⟨5,72,true,[d7,d7,mC,mC,dt],.struct [(0,3),(1,3),(2,9),(3,9),(4,102)],[]⟩),
 (106,⟨4,32,true,[d7,d7,d7,d7],.struct [(0,3),(1,3),(2,3),(3,3)],[0,0,0,0]⟩),
 (108,⟨20,232,true,[mC,dt,dt,d7,d7,d7,HK,d7,d7,d7,mC,mC,dt,d7,d7,d7,d7,d7,d7,d7],.struct [(0,9),(1,101),(2,101),(3,3),(4,3),(5,3),(6,4),(7,3),(8,104),(13,106),(17,3),(18,3),(19,3)],[]⟩),
 (110,⟨3,40,true,[d7,dt,d7],.struct [(0,3),(1,91),(2,3)],[]⟩),
 (111,⟨1,24,false,[dt],.slice 114,[]⟩),
 (114,⟨4,48,true,[d7,d7,d7,dt],.struct [(0,3),(1,3),(2,3),(3,69)],[]⟩),
 (117,⟨6,88,true,[mC,d7,d7,mC,mC,dt],.struct [(0,9),(1,104)],[]⟩),
 (126,⟨1,24,false,[dt],.slice 41,[]⟩),
 (127,⟨1,24,false,[dt],.slice 41,[]⟩),
 (151,⟨1,8,false,[.int .u64 0],.int .u64,[]⟩),
 (161,⟨1,8,false,[.pointer none],.other,[]⟩),
 (163,⟨10,224,true,[dt,dt,dt,dt,dt,dt,dt,d7,dt,dt],.struct [(0,30),(8,91),(9,98)],[]⟩),
 (167,⟨1,8,false,[.nilFunc],.other,[]⟩),
 (169,⟨2,24,true,[mC,.nilFunc],.struct [(0,9),(1,167)],[]⟩),
 (170,⟨18,216,true,[mC,.nilFunc,mC,.nilFunc,mC,.nilFunc,mC,.nilFunc,mC,.nilFunc,mC,.nilFunc,mC,.nilFunc,mC,.nilFunc,mC,.nilFunc],.arr 9 169,[]⟩),
 (173,⟨21,440,true,[dt,dt,dt,dt,dt,dt,dt,d7,dt,dt,dt,dt,dt,d7,d7,dt,dt,d7,dt,dt,dt],.struct [(0,37),(13,93),(17,40),(19,98),(20,101)],[]⟩),
 (180,⟨1,24,false,[dt],.slice 214,[]⟩),
 (208,⟨1,24,false,[dt],.slice 106,[]⟩),
 (214,⟨3,40,true,[d7,d7,dt],.struct [(0,3),(1,3),(2,91)],[]⟩),
 (228,⟨1,24,false,[dt],.slice 91,[]⟩),
 (230,⟨6,96,true,[mC,mC,mC,mC,mC,mC],.arr 6 9,[]⟩),
 (238,⟨1,24,false,[dt],.slice 285,[]⟩),
 (248,⟨1,24,false,[dt],.slice 300,[]⟩),
 (250,⟨4,56,true,[mC,d7,d7,dt],.struct [(0,9),(1,3),(2,3),(3,248)],[]⟩),
 (254,⟨3,48,true,[mC,HK,dt],.struct [(0,9),(1,4),(2,248)],[]⟩),
 (258,⟨1,8,false,[.map none],.map 9 3,[]⟩),
 (260,⟨10,208,true,[dt,dt,dt,dt,dt,dt,dt,d7,.map none,dt],.struct [(0,30),(8,258),(9,101)],[]⟩),
 (267,⟨10,80,true,[d7,d7,d7,d7,d7,d7,d7,d7,d7,HK],.struct [(0,3),(1,97)],[]⟩),
 (281,⟨1,24,false,[dt],.slice 283,[]⟩),
 (283,⟨2,16,true,[d7,d7],.struct [(0,3),(1,3)],[0,0]⟩),
 (285,⟨3,40,true,[d7,d7,dt],.struct [(0,3),(1,3),(2,281)],[]⟩),
 (295,⟨1,8,false,[.map none],.map 9 4,[]⟩),
 (300,⟨2,16,true,[d7,d7],.struct [(0,3),(1,3)],[0,0]⟩),
 (336,⟨4,32,true,[d7,d7,d7,d7],.arr 4 3,[]⟩),
 (348,⟨1,24,false,[dt],.slice 351,[]⟩),
 (351,⟨4,32,true,[d7,d7,d7,d7],.struct [(0,300),(2,300)],[]⟩),
 (353,⟨2,48,true,[dt,dt],.struct [(0,22),(1,126)],[]⟩),
 (363,⟨1,24,false,[dt],.slice 281,[]⟩),
 (416,⟨3,24,true,[d7,d7,d7],.struct [(0,3),(1,3),(2,3)],[0,0,0]⟩),
 (418,⟨6,72,true,[mC,d7,d7,d7,d7,dt],.struct [(0,9),(1,416),(4,3),(5,28)],[]⟩),
 (420,⟨4,32,true,[d7,d7,d7,d7],.struct [(0,3),(1,416)],[]⟩)]
def arP:Y (TypeId×CT SI):=[(3,.int .i64),(4,.bool),(9,.str),(40,.st SI.i8),(42,.sl (.st SI.nr)),(48,.st SI.nr),(62,.st SI.Claim),(74,.st SI.Table),(85,.st SI.Case),(88,.st SI.Entry),(90,.st SI.nw),(91,.sl (.st SI.nw)),(93,.st SI.Lot),(97,.st SI.kw),(100,.st SI.Phase),(106,.st SI.io),(214,.st SI.mm),(281,.sl (.st SI.span)),(283,.st SI.span),(285,.st SI.strip),(351,.st SI.side)]
def aql:TypeId->J (CT xx.ι):=lk arP
theorem aqm:fF Tryz.prog (iM tab):=ae4 (by kernel_rfl)
theorem mixed:Tryz.prog.follows .mixedOrders=true:=Checked.mixed Tryz.checked
theorem cq{f:FuncId}{fn:Func}{l:Y (FuncId×cy xx)}(hΓ:t7 Tryz.prog (AM l))(hfn:Tryz.prog.funcs[f]? =some fn){s:cy xx}(h:Hn SI)(n:Nat)
 (hq : (fn.body.isSome && !(fn.name == "runtime.NumGoroutine") && decide (s.args.length <= fn.ntmps /\ xM s.args <= 1000 /\ (s.res.filter RT.out).length = xM s.args)) = true := by kernel_rfl) (hg : s.gen = none := by rfl)
 (hr:∀a,run (AM l) (iM tab) aql fn.ntmps n (fn.body.getD .skip) (uw xx s.res) h (DH s.args a) (arF (iM tab) fn.results.toList s.res)=s.fn a:=by intro _;kernel_rfl):HH Tryz.prog f s:=by
 rw[aT,aT]at hq;obtain⟨⟨q1,q2⟩,q3⟩:=hq;have hb:fn.body=some (fn.body.getD .skip):=by
  cases hc:fn.body with
  |none=>rw[hc]at q1;cases q1
  |some c=>rfl
 have hn : (fn.name == "runtime.NumGoroutine") = false := by simpa using q2
 exact xl (qG hfn hb hn) (λ a _ e=>arG aqm mixed hΓ hfn hb hn _ _ (of_decide_eq_true q3) h n ((hr a).trans e)) hg
abbrev tzG(g:ea xx):cy xx:=⟨[],[.d .bool],λ_=>none,some g⟩
theorem pS{f:FuncId}{fn:Func}{l:Y (FuncId×cy xx)}(hΓ:t7 Tryz.prog (AM l))(hfn:Tryz.prog.funcs[f]? =some fn){g:ea xx}(h:Hn SI)(n:Nat)
 (hq : (fn.body.isSome && !(fn.name == "runtime.NumGoroutine") && decide (g.rh.length <= fn.ntmps) && g.DM) = true:=by kernel_rfl)
 (hr:∀v,run (AM l) (iM tab) aql fn.ntmps n (fn.body.getD .skip) (VT (X:=xx) (Bj g).vars) h (HW g v) (aqh (iM tab) fn.results.toList g)=g.fn v:=by intro _;kernel_rfl):HH Tryz.prog f ⟨[],[.d .bool],λ_=>none,some g⟩:=by
 rw[aT,aT,aT]at hq;obtain⟨⟨⟨q1,q2⟩,q3⟩,q4⟩:=hq;have hb:fn.body=some (fn.body.getD .skip):=by
  cases hc:fn.body with
  |none=>rw[hc]at q1;cases q1
  |some c=>rfl
 have hn : (fn.name == "runtime.NumGoroutine") = false := by simpa using q2
 exact aqJ (qG hfn hb hn) (aqK aqm mixed hΓ hfn hb hn g (of_decide_eq_true q3) q4 h n (λ v _ e=>(hr v).trans e))
theorem gcn:t7 Tryz.prog (AM ([]:Y (FuncId×cy xx))):=ay
abbrev af:CT SI:=.int .i64
abbrev bA:CT SI:=.st SI.Def
abbrev gX:CT SI:=.st SI.Entry
abbrev aY:CT SI:=.st SI.Table
abbrev bD:CT SI:=.st SI.Zone
abbrev aW:CT SI:=.st SI.Rule
abbrev bG:CT SI:=.st SI.Cap
abbrev aX:CT SI:=.st SI.hZ
abbrev bE:CT SI:=.st SI.View
abbrev aA:CT SI:=.st SI.nw
abbrev aF:CT SI:=.st SI.kw
abbrev fG:CT SI:=.st SI.nr
abbrev dL:CT SI:=.st SI.Claim
abbrev dF:CT SI:=.st SI.fX
abbrev gT:CT SI:=.st SI.xe
abbrev eX:CT SI:=.st SI.i8
abbrev aD(f:Nat)(s:cy xx):Prop:=HH Tryz.prog f s
abbrev iq:=(List gW)×(List bQ)×(List fO)×(List dw)×(List jI)×(List iG)×(List dM)×Int×(List ax)×(List aG)
end Go.Proofs
