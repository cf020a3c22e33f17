import Derived.Test.YtckpncemdfkmgabGreatH1
import Derived.Test.YtckpncemdfkmgabGreatChecked
namespace Go.Proofs
open Go.Gb Go.RowKit
structure bU where
 op:Int
 n:Int
 s:ByteArray
 key:ByteArray
 args:(List bU)
mutual
def qY:bU->List Tree
 |⟨f0,f1,f2,f3,f4⟩=>[.sc (.int .i64 f0),.sc (.int .i64 f1),.sc (.string f2),.sc (.string f3),.sl (tu f4)]
def tu:List bU->List (List Tree)
 |[]=>[]
 |x::xs=>qY x::tu xs
end
theorem tC:∀l:List bU,tu l=l.map qY
 |[]=>rfl
 |x::xs=>by rw[tu,tC xs];rfl
theorem VI(x:bU):qY x=[.sc (.int .i64 x.op),.sc (.int .i64 x.n),.sc (.string x.s),.sc (.string x.key),.sl (x.args.map qY)]:=by cases x;simp only[qY,tC]
structure bP where
 name:ByteArray
 zones:(List ByteArray)
 except:(List ByteArray)
 from_:Int
 ka:Int
 zE:Int
 vary:Bool
 kind:Int
 ky:Int
 m7:Int
 m6:ByteArray
 i8:ByteArray
 fS:(List bU)
 gS:Int
 hZ:Int
 i9:Int
 jj:Int
 uses:Int
 other:Int
 n:Int
def wX(x:bP):List Tree:=[.sc (.string x.name),.sl (x.zones.map (λ y=>[.sc (.string y)])),.sl (x.except.map (λ y=>[.sc (.string y)])),.sc (.int .i64 x.from_),.sc (.int .i64 x.ka),.sc (.int .i64 x.zE),.sc (.bool x.vary),.sc (.int .i64 x.kind),.sc (.int .i64 x.ky),.sc (.int .i64 x.m7),.sc (.string x.m6),.sc (.string x.i8),.sl (x.fS.map qY),.sc (.int .i64 x.gS),.sc (.int .i64 x.hZ),.sc (.int .i64 x.i9),.sc (.int .i64 x.jj),.sc (.int .i64 x.uses),.sc (.int .i64 x.other),.sc (.int .i64 x.n)]
structure gP where
 name:ByteArray
 iu:Int
 ly:Int
 kq:ByteArray
 ik:ByteArray
 el:(List bU)
def Eb(x:gP):List Tree:=[.sc (.string x.name),.sc (.int .i64 x.iu),.sc (.int .i64 x.ly),.sc (.string x.kq),.sc (.string x.ik),.sl (x.el.map qY)]
structure bD where
 name:ByteArray
 n:Int
 deriving DecidableEq,Inhabited
def Ho(x:bD):List Tree:=[.sc (.string x.name),.sc (.int .i64 x.n)]
structure cO where
 name:ByteArray
 rows:(List bD)
 sf:Int
 deriving DecidableEq,Inhabited
def Hq(x:cO):List Tree:=[.sc (.string x.name),.sl (x.rows.map Ho),.sc (.int .i64 x.sf)]
structure eF where
 x:Int
 y:Int
 deriving DecidableEq,Inhabited
def VJ(x:eF):List Tree:=[.sc (.int .i64 x.x),.sc (.int .i64 x.y)]
structure fJ where
 name:ByteArray
 overlay:Bool
 corners:(List eF)
 deriving DecidableEq,Inhabited
def MB(x:fJ):List Tree:=[.sc (.string x.name),.sc (.bool x.overlay),.sl (x.corners.map VJ)]
structure ji where
 name:ByteArray
 load:Int
 limit:Int
 corners:(List eF)
 deriving DecidableEq,Inhabited
def VK(x:ji):List Tree:=[.sc (.string x.name),.sc (.int .i64 x.load),.sc (.int .i64 x.limit),.sl (x.corners.map VJ)]
structure dw where
 x:Int
 y:Int
 z:Int
 deriving DecidableEq,Inhabited
def xS(x:dw):List Tree:=[.sc (.int .i64 x.x),.sc (.int .i64 x.y),.sc (.int .i64 x.z)]
structure ic where
 name:ByteArray
 At:Int
 As:Int
 An:Int
 least:Int
 targets:(List dw)
 deriving DecidableEq,Inhabited
def MC(x:ic):List Tree:=[.sc (.string x.name),.sc (.int .i64 x.At),.sc (.int .i64 x.As),.sc (.int .i64 x.An),.sc (.int .i64 x.least),.sl (x.targets.map xS)]
structure au where
 x0:Int
 y0:Int
 x1:Int
 y1:Int
 deriving DecidableEq,Inhabited
def Jg(x:au):List Tree:=[.sc (.int .i64 x.x0),.sc (.int .i64 x.y0),.sc (.int .i64 x.x1),.sc (.int .i64 x.y1)]
structure jN where
 id:Int
 owner:Int
 area:(List au)
 from_:(List Int)
 deriving DecidableEq,Inhabited
def KN(x:jN):List Tree:=[.sc (.int .i64 x.id),.sc (.int .i64 x.owner),.sl (x.area.map Jg),.sl (x.from_.map (λ y=>[.sc (.int .i64 y)]))]
structure gM where
 lot:Int
 area:(List au)
 top:Int
 deriving DecidableEq,Inhabited
def Hr(x:gM):List Tree:=[.sc (.int .i64 x.lot),.sl (x.area.map Jg),.sc (.int .i64 x.top)]
structure zT where
 lot:Int
 My:Int
 Mu:Int
 Mp:Int
 deriving DecidableEq,Inhabited
def Pe(x:zT):List Tree:=[.sc (.int .i64 x.lot),.sc (.int .i64 x.My),.sc (.int .i64 x.Mu),.sc (.int .i64 x.Mp)]
structure iL where
 lot:Int
 ej:Int
 ef:Int
 eh:Int
 ee:Int
 li:Int
 lh:Int
 eS:Int
 mf:Int
 mi:Bool
 deriving DecidableEq,Inhabited
def Pf(x:iL):List Tree:=[.sc (.int .i64 x.lot),.sc (.int .i64 x.ej),.sc (.int .i64 x.ef),.sc (.int .i64 x.eh),.sc (.int .i64 x.ee),.sc (.int .i64 x.li),.sc (.int .i64 x.lh),.sc (.int .i64 x.eS),.sc (.int .i64 x.mf),.sc (.bool x.mi)]
structure eY where
 ch:(List gP)
 b9:(List cO)
 b8:(List fJ)
 az:(List bP)
 ci:(List ji)
 cd:(List ic)
 cp:(List dw)
 cg:Int
 land:(List jN)
 bj:(List gM)
 windows:(List zT)
 built:(List iL)
 base:(List bD)
def Jh(x:eY):List Tree:=[.sl (x.ch.map Eb),.sl (x.b9.map Hq),.sl (x.b8.map MB),.sl (x.az.map wX),.sl (x.ci.map VK),.sl (x.cd.map MC),.sl (x.cp.map xS),.sc (.int .i64 x.cg),.sl (x.land.map KN),.sl (x.bj.map Hr),.sl (x.windows.map Pe),.sl (x.built.map Pf),.sl (x.base.map Ho)]
structure aC where
 bm:Int
 bz:Int
 bk:Int
 bx:Int
 cz:Int
 cC:Int
 use:Int
 units:Int
 extra:Bool
 deriving DecidableEq,Inhabited
def Ji(x:aC):List Tree:=[.sc (.int .i64 x.bm),.sc (.int .i64 x.bz),.sc (.int .i64 x.bk),.sc (.int .i64 x.bx),.sc (.int .i64 x.cz),.sc (.int .i64 x.cC),.sc (.int .i64 x.use),.sc (.int .i64 x.units),.sc (.bool x.extra)]
structure eH where
 aE:(List aC)
 gives:(List bD)
 deriving DecidableEq,Inhabited
def VL(x:eH):List Tree:=[.sl (x.aE.map Ji),.sl (x.gives.map Ho)]
structure aG where
 lot:Int
 phases:(List eH)
 deriving DecidableEq,Inhabited
def afP(x:aG):List Tree:=[.sc (.int .i64 x.lot),.sl (x.phases.map VL)]
structure yp where
 mC:Int
 mz:Int
 mA:Int
 my:Int
 z0:Int
 z1:Int
 deriving DecidableEq,Inhabited
def anm(x:yp):List Tree:=[.sc (.int .i64 x.mC),.sc (.int .i64 x.mz),.sc (.int .i64 x.mA),.sc (.int .i64 x.my),.sc (.int .i64 x.z0),.sc (.int .i64 x.z1)]
structure aK where
 from_:Int
 to:Int
 deriving DecidableEq,Inhabited
def ahw(x:aK):List Tree:=[.sc (.int .i64 x.from_),.sc (.int .i64 x.to)]
structure bQ where
 x0:Int
 x1:Int
 column:(List aK)
 deriving DecidableEq,Inhabited
def akA(x:bQ):List Tree:=[.sc (.int .i64 x.x0),.sc (.int .i64 x.x1),.sl (x.column.map ahw)]
structure cB where
 defs:(List gP)
 tables:(List cO)
 zones:(List fJ)
 rules:(List bP)
 caps:(List ji)
 views:(List ic)
 vi:(List dw)
 hours:Int
def alZ(x:cB):List Tree:=[.sl (x.defs.map Eb),.sl (x.tables.map Hq),.sl (x.zones.map MB),.sl (x.rules.map wX),.sl (x.caps.map VK),.sl (x.views.map MC),.sl (x.vi.map xS),.sc (.int .i64 x.hours)]
structure jO where
 lz:Int
 pH:Int
 mL:Int
 ut:Int
 deriving DecidableEq,Inhabited
def al0(x:jO):List Tree:=[.sc (.int .i64 x.lz),.sc (.int .i64 x.pH),.sc (.int .i64 x.mL),.sc (.int .i64 x.ut)]
structure mF where
 fh:(List gP)
 ez:(List cO)
 eK:(List fJ)
 eQ:(List bP)
 fi:(List ji)
 eM:(List ic)
 ga:(List dw)
 eR:Int
 p6:(List jN)
 ke:(List gM)
 mj:(List zT)
 fR:(List iL)
 p7:(List bD)
 sL:Int
 nb:Int
 kh:(List au)
 pd:(List Int)
 dE:Int
 ii:(List eH)
 aE:(List aC)
 zones:(List ByteArray)
def akB(x:mF):List Tree:=[.sl (x.fh.map Eb),.sl (x.ez.map Hq),.sl (x.eK.map MB),.sl (x.eQ.map wX),.sl (x.fi.map VK),.sl (x.eM.map MC),.sl (x.ga.map xS),.sc (.int .i64 x.eR),.sl (x.p6.map KN),.sl (x.ke.map Hr),.sl (x.mj.map Pe),.sl (x.fR.map Pf),.sl (x.p7.map Ho),.sc (.int .i64 x.sL),.sc (.int .i64 x.nb),.sl (x.kh.map Jg),.sl (x.pd.map (λ y=>[.sc (.int .i64 y)])),.sc (.int .i64 x.dE),.sl (x.ii.map VL),.sl (x.aE.map Ji),.sl (x.zones.map (λ y=>[.sc (.string y)]))]
structure amK where
 ch:(List gP)
 b9:(List cO)
 b8:(List fJ)
 az:(List bP)
 ci:(List ji)
 cd:(List ic)
 cp:(List dw)
 cg:Int
 area:(List au)
 aE:(List aC)
def al1(x:amK):List Tree:=[.sl (x.ch.map Eb),.sl (x.b9.map Hq),.sl (x.b8.map MB),.sl (x.az.map wX),.sl (x.ci.map VK),.sl (x.cd.map MC),.sl (x.cp.map xS),.sc (.int .i64 x.cg),.sl (x.area.map Jg),.sl (x.aE.map Ji)]
structure Jj where
 a0:ByteArray
 a1:ByteArray
 a2:ByteArray
 a3:ByteArray
 a4:ByteArray
 a5:ByteArray
 deriving DecidableEq,Inhabited
def aiL(x:Jj):List Tree:=[.sc (.string x.a0),.sc (.string x.a1),.sc (.string x.a2),.sc (.string x.a3),.sc (.string x.a4),.sc (.string x.a5)]
structure pE where
 defs:(List gP)
 uses:(List (List Int))
def akC(x:pE):List Tree:=[.sl (x.defs.map Eb),.sl (x.uses.map (λ y=>[.sl (y.map (λ y=>[.sc (.int .i64 y)]))]))]
structure gQ where
 z0:Int
 z1:Int
 area:(List au)
 deriving DecidableEq,Inhabited
def al2(x:gQ):List Tree:=[.sc (.int .i64 x.z0),.sc (.int .i64 x.z1),.sl (x.area.map Jg)]
structure d9 where
 side:Int
 base:Int
 num:Int
 den:Int
 deriving DecidableEq,Inhabited
def akD(x:d9):List Tree:=[.sc (.int .i64 x.side),.sc (.int .i64 x.base),.sc (.int .i64 x.num),.sc (.int .i64 x.den)]
structure ME where
 a0:Int
 a1:Int
 a2:Int
 a3:Int
 deriving DecidableEq,Inhabited
def aiM(x:ME):List Tree:=[.sc (.int .i64 x.a0),.sc (.int .i64 x.a1),.sc (.int .i64 x.a2),.sc (.int .i64 x.a3)]
structure aD where
 floors:(List Int)
 cost:Int
 deriving DecidableEq,Inhabited
def aiN(x:aD):List Tree:=[.sl (x.floors.map (λ y=>[.sc (.int .i64 y)])),.sc (.int .i64 x.cost)]
inductive SI where
 |Expr
 |Rule
 |Def
 |Entry
 |Table
 |iv
 |Zone
 |Cap
 |gj
 |View
 |mN
 |Lot
 |eJ
 |Window
 |fY
 |ir
 |i6
 |Phase
 |eC
 |A6
 |span
 |strip
 |lf
 |side
 |kf
 |site
 |nq
 |graph
 |ld
 |gd
 |nr
 |Change
 deriving DecidableEq
@[reducible] def TT:SI->Type
 |.Expr=>bU
 |.Rule=>bP
 |.Def=>gP
 |.Entry=>bD
 |.Table=>cO
 |.iv=>eF
 |.Zone=>fJ
 |.Cap=>ji
 |.gj=>dw
 |.View=>ic
 |.mN=>au
 |.Lot=>jN
 |.eJ=>gM
 |.Window=>zT
 |.fY=>iL
 |.ir=>eY
 |.i6=>aC
 |.Phase=>eH
 |.eC=>aG
 |.A6=>yp
 |.span=>aK
 |.strip=>bQ
 |.lf=>cB
 |.side=>jO
 |.kf=>mF
 |.site=>amK
 |.nq=>Jj
 |.graph=>pE
 |.ld=>gQ
 |.gd=>d9
 |.nr=>ME
 |.Change=>aD
def aoj:(i:SI)->TT i->List Tree
 |.Expr,x=>qY x
 |.Rule,x=>wX x
 |.Def,x=>Eb x
 |.Entry,x=>Ho x
 |.Table,x=>Hq x
 |.iv,x=>VJ x
 |.Zone,x=>MB x
 |.Cap,x=>VK x
 |.gj,x=>xS x
 |.View,x=>MC x
 |.mN,x=>Jg x
 |.Lot,x=>KN x
 |.eJ,x=>Hr x
 |.Window,x=>Pe x
 |.fY,x=>Pf x
 |.ir,x=>Jh x
 |.i6,x=>Ji x
 |.Phase,x=>VL x
 |.eC,x=>afP x
 |.A6,x=>anm x
 |.span,x=>ahw x
 |.strip,x=>akA x
 |.lf,x=>alZ x
 |.side,x=>al0 x
 |.kf,x=>akB x
 |.site,x=>al1 x
 |.nq,x=>aiL x
 |.graph,x=>akC x
 |.ld,x=>al2 x
 |.gd,x=>akD x
 |.nr,x=>aiM x
 |.Change,x=>aiN x
def se:SE:=⟨SI,inferInstance,TT,aoj⟩
def ano:SI->List (CT SI)
 |.Expr=>[(.int .i64),(.int .i64),.str,.str,(.sl (.st SI.Expr))]
 |.Rule=>[.str,(.sl .str),(.sl .str),(.int .i64),(.int .i64),(.int .i64),.bool,(.int .i64),(.int .i64),(.int .i64),.str,.str,(.sl (.st SI.Expr)),(.int .i64),(.int .i64),(.int .i64),(.int .i64),(.int .i64),(.int .i64),(.int .i64)]
 |.Def=>[.str,(.int .i64),(.int .i64),.str,.str,(.sl (.st SI.Expr))]
 |.Entry=>[.str,(.int .i64)]
 |.Table=>[.str,(.sl (.st SI.Entry)),(.int .i64)]
 |.iv=>[(.int .i64),(.int .i64)]
 |.Zone=>[.str,.bool,(.sl (.st SI.iv))]
 |.Cap=>[.str,(.int .i64),(.int .i64),(.sl (.st SI.iv))]
 |.gj=>[(.int .i64),(.int .i64),(.int .i64)]
 |.View=>[.str,(.int .i64),(.int .i64),(.int .i64),(.int .i64),(.sl (.st SI.gj))]
 |.mN=>[(.int .i64),(.int .i64),(.int .i64),(.int .i64)]
 |.Lot=>[(.int .i64),(.int .i64),(.sl (.st SI.mN)),(.sl (.int .i64))]
 |.eJ=>[(.int .i64),(.sl (.st SI.mN)),(.int .i64)]
 |.Window=>[(.int .i64),(.int .i64),(.int .i64),(.int .i64)]
 |.fY=>[(.int .i64),(.int .i64),(.int .i64),(.int .i64),(.int .i64),(.int .i64),(.int .i64),(.int .i64),(.int .i64),.bool]
 |.ir=>[(.sl (.st SI.Def)),(.sl (.st SI.Table)),(.sl (.st SI.Zone)),(.sl (.st SI.Rule)),(.sl (.st SI.Cap)),(.sl (.st SI.View)),(.sl (.st SI.gj)),(.int .i64),(.sl (.st SI.Lot)),(.sl (.st SI.eJ)),(.sl (.st SI.Window)),(.sl (.st SI.fY)),(.sl (.st SI.Entry))]
 |.i6=>[(.int .i64),(.int .i64),(.int .i64),(.int .i64),(.int .i64),(.int .i64),(.int .i64),(.int .i64),.bool]
 |.Phase=>[(.sl (.st SI.i6)),(.sl (.st SI.Entry))]
 |.eC=>[(.int .i64),(.sl (.st SI.Phase))]
 |.A6=>[(.int .i64),(.int .i64),(.int .i64),(.int .i64),(.int .i64),(.int .i64)]
 |.span=>[(.int .i64),(.int .i64)]
 |.strip=>[(.int .i64),(.int .i64),(.sl (.st SI.span))]
 |.lf=>[(.sl (.st SI.Def)),(.sl (.st SI.Table)),(.sl (.st SI.Zone)),(.sl (.st SI.Rule)),(.sl (.st SI.Cap)),(.sl (.st SI.View)),(.sl (.st SI.gj)),(.int .i64)]
 |.side=>[(.int .i64),(.int .i64),(.int .i64),(.int .i64)]
 |.kf=>[(.sl (.st SI.Def)),(.sl (.st SI.Table)),(.sl (.st SI.Zone)),(.sl (.st SI.Rule)),(.sl (.st SI.Cap)),(.sl (.st SI.View)),(.sl (.st SI.gj)),(.int .i64),(.sl (.st SI.Lot)),(.sl (.st SI.eJ)),(.sl (.st SI.Window)),(.sl (.st SI.fY)),(.sl (.st SI.Entry)),(.int .i64),(.int .i64),(.sl (.st SI.mN)),(.sl (.int .i64)),(.int .i64),(.sl (.st SI.Phase)),(.sl (.st SI.i6)),(.sl .str)]
 |.site=>[(.sl (.st SI.Def)),(.sl (.st SI.Table)),(.sl (.st SI.Zone)),(.sl (.st SI.Rule)),(.sl (.st SI.Cap)),(.sl (.st SI.View)),(.sl (.st SI.gj)),(.int .i64),(.sl (.st SI.mN)),(.sl (.st SI.i6))]
 |.nq=>[.str,.str,.str,.str,.str,.str]
 |.graph=>[(.sl (.st SI.Def)),(.sl (.sl (.int .i64)))]
 |.ld=>[(.int .i64),(.int .i64),(.sl (.st SI.mN))]
 |.gd=>[(.int .i64),(.int .i64),(.int .i64),(.int .i64)]
 |.nr=>[(.int .i64),(.int .i64),(.int .i64),(.int .i64)]
 |.Change=>[(.sl (.int .i64)),(.int .i64)]
def aok:(i:SI)->TT i->HL se (ano i)
 |.Expr,x=>(x.op,x.n,x.s,x.key,x.args,())
 |.Rule,x=>(x.name,x.zones,x.except,x.from_,x.ka,x.zE,x.vary,x.kind,x.ky,x.m7,x.m6,x.i8,x.fS,x.gS,x.hZ,x.i9,x.jj,x.uses,x.other,x.n,())
 |.Def,x=>(x.name,x.iu,x.ly,x.kq,x.ik,x.el,())
 |.Entry,x=>(x.name,x.n,())
 |.Table,x=>(x.name,x.rows,x.sf,())
 |.iv,x=>(x.x,x.y,())
 |.Zone,x=>(x.name,x.overlay,x.corners,())
 |.Cap,x=>(x.name,x.load,x.limit,x.corners,())
 |.gj,x=>(x.x,x.y,x.z,())
 |.View,x=>(x.name,x.At,x.As,x.An,x.least,x.targets,())
 |.mN,x=>(x.x0,x.y0,x.x1,x.y1,())
 |.Lot,x=>(x.id,x.owner,x.area,x.from_,())
 |.eJ,x=>(x.lot,x.area,x.top,())
 |.Window,x=>(x.lot,x.My,x.Mu,x.Mp,())
 |.fY,x=>(x.lot,x.ej,x.ef,x.eh,x.ee,x.li,x.lh,x.eS,x.mf,x.mi,())
 |.ir,x=>(x.ch,x.b9,x.b8,x.az,x.ci,x.cd,x.cp,x.cg,x.land,x.bj,x.windows,x.built,x.base,())
 |.i6,x=>(x.bm,x.bz,x.bk,x.bx,x.cz,x.cC,x.use,x.units,x.extra,())
 |.Phase,x=>(x.aE,x.gives,())
 |.eC,x=>(x.lot,x.phases,())
 |.A6,x=>(x.mC,x.mz,x.mA,x.my,x.z0,x.z1,())
 |.span,x=>(x.from_,x.to,())
 |.strip,x=>(x.x0,x.x1,x.column,())
 |.lf,x=>(x.defs,x.tables,x.zones,x.rules,x.caps,x.views,x.vi,x.hours,())
 |.side,x=>(x.lz,x.pH,x.mL,x.ut,())
 |.kf,x=>(x.fh,x.ez,x.eK,x.eQ,x.fi,x.eM,x.ga,x.eR,x.p6,x.ke,x.mj,x.fR,x.p7,x.sL,x.nb,x.kh,x.pd,x.dE,x.ii,x.aE,x.zones,())
 |.site,x=>(x.ch,x.b9,x.b8,x.az,x.ci,x.cd,x.cp,x.cg,x.area,x.aE,())
 |.nq,x=>(x.a0,x.a1,x.a2,x.a3,x.a4,x.a5,())
 |.graph,x=>(x.defs,x.uses,())
 |.ld,x=>(x.z0,x.z1,x.area,())
 |.gd,x=>(x.side,x.base,x.num,x.den,())
 |.nr,x=>(x.a0,x.a1,x.a2,x.a3,())
 |.Change,x=>(x.floors,x.cost,())
def anZ:(i:SI)->HL se (ano i)->TT i
 |.Expr,h=>⟨h.1,h.2.1,h.2.2.1,h.2.2.2.1,h.2.2.2.2.1⟩
 |.Rule,h=>⟨h.1,h.2.1,h.2.2.1,h.2.2.2.1,h.2.2.2.2.1,h.2.2.2.2.2.1,h.2.2.2.2.2.2.1,h.2.2.2.2.2.2.2.1,h.2.2.2.2.2.2.2.2.1,h.2.2.2.2.2.2.2.2.2.1,h.2.2.2.2.2.2.2.2.2.2.1,h.2.2.2.2.2.2.2.2.2.2.2.1,h.2.2.2.2.2.2.2.2.2.2.2.2.1,h.2.2.2.2.2.2.2.2.2.2.2.2.2.1,h.2.2.2.2.2.2.2.2.2.2.2.2.2.2.1,h.2.2.2.2.2.2.2.2.2.2.2.2.2.2.2.1,h.2.2.2.2.2.2.2.2.2.2.2.2.2.2.2.2.1,h.2.2.2.2.2.2.2.2.2.2.2.2.2.2.2.2.2.1,h.2.2.2.2.2.2.2.2.2.2.2.2.2.2.2.2.2.2.1,h.2.2.2.2.2.2.2.2.2.2.2.2.2.2.2.2.2.2.2.1⟩
 |.Def,h=>⟨h.1,h.2.1,h.2.2.1,h.2.2.2.1,h.2.2.2.2.1,h.2.2.2.2.2.1⟩
 |.Entry,h=>⟨h.1,h.2.1⟩
 |.Table,h=>⟨h.1,h.2.1,h.2.2.1⟩
 |.iv,h=>⟨h.1,h.2.1⟩
 |.Zone,h=>⟨h.1,h.2.1,h.2.2.1⟩
 |.Cap,h=>⟨h.1,h.2.1,h.2.2.1,h.2.2.2.1⟩
 |.gj,h=>⟨h.1,h.2.1,h.2.2.1⟩
 |.View,h=>⟨h.1,h.2.1,h.2.2.1,h.2.2.2.1,h.2.2.2.2.1,h.2.2.2.2.2.1⟩
 |.mN,h=>⟨h.1,h.2.1,h.2.2.1,h.2.2.2.1⟩
 |.Lot,h=>⟨h.1,h.2.1,h.2.2.1,h.2.2.2.1⟩
 |.eJ,h=>⟨h.1,h.2.1,h.2.2.1⟩
 |.Window,h=>⟨h.1,h.2.1,h.2.2.1,h.2.2.2.1⟩
 |.fY,h=>⟨h.1,h.2.1,h.2.2.1,h.2.2.2.1,h.2.2.2.2.1,h.2.2.2.2.2.1,h.2.2.2.2.2.2.1,h.2.2.2.2.2.2.2.1,h.2.2.2.2.2.2.2.2.1,h.2.2.2.2.2.2.2.2.2.1⟩
 |.ir,h=>⟨h.1,h.2.1,h.2.2.1,h.2.2.2.1,h.2.2.2.2.1,h.2.2.2.2.2.1,h.2.2.2.2.2.2.1,h.2.2.2.2.2.2.2.1,h.2.2.2.2.2.2.2.2.1,h.2.2.2.2.2.2.2.2.2.1,h.2.2.2.2.2.2.2.2.2.2.1,h.2.2.2.2.2.2.2.2.2.2.2.1,h.2.2.2.2.2.2.2.2.2.2.2.2.1⟩
 |.i6,h=>⟨h.1,h.2.1,h.2.2.1,h.2.2.2.1,h.2.2.2.2.1,h.2.2.2.2.2.1,h.2.2.2.2.2.2.1,h.2.2.2.2.2.2.2.1,h.2.2.2.2.2.2.2.2.1⟩
 |.Phase,h=>⟨h.1,h.2.1⟩
 |.eC,h=>⟨h.1,h.2.1⟩
 |.A6,h=>⟨h.1,h.2.1,h.2.2.1,h.2.2.2.1,h.2.2.2.2.1,h.2.2.2.2.2.1⟩
 |.span,h=>⟨h.1,h.2.1⟩
 |.strip,h=>⟨h.1,h.2.1,h.2.2.1⟩
 |.lf,h=>⟨h.1,h.2.1,h.2.2.1,h.2.2.2.1,h.2.2.2.2.1,h.2.2.2.2.2.1,h.2.2.2.2.2.2.1,h.2.2.2.2.2.2.2.1⟩
 |.side,h=>⟨h.1,h.2.1,h.2.2.1,h.2.2.2.1⟩
 |.kf,h=>⟨h.1,h.2.1,h.2.2.1,h.2.2.2.1,h.2.2.2.2.1,h.2.2.2.2.2.1,h.2.2.2.2.2.2.1,h.2.2.2.2.2.2.2.1,h.2.2.2.2.2.2.2.2.1,h.2.2.2.2.2.2.2.2.2.1,h.2.2.2.2.2.2.2.2.2.2.1,h.2.2.2.2.2.2.2.2.2.2.2.1,h.2.2.2.2.2.2.2.2.2.2.2.2.1,h.2.2.2.2.2.2.2.2.2.2.2.2.2.1,h.2.2.2.2.2.2.2.2.2.2.2.2.2.2.1,h.2.2.2.2.2.2.2.2.2.2.2.2.2.2.2.1,h.2.2.2.2.2.2.2.2.2.2.2.2.2.2.2.2.1,h.2.2.2.2.2.2.2.2.2.2.2.2.2.2.2.2.2.1,h.2.2.2.2.2.2.2.2.2.2.2.2.2.2.2.2.2.2.1,h.2.2.2.2.2.2.2.2.2.2.2.2.2.2.2.2.2.2.2.1,h.2.2.2.2.2.2.2.2.2.2.2.2.2.2.2.2.2.2.2.2.1⟩
 |.site,h=>⟨h.1,h.2.1,h.2.2.1,h.2.2.2.1,h.2.2.2.2.1,h.2.2.2.2.2.1,h.2.2.2.2.2.2.1,h.2.2.2.2.2.2.2.1,h.2.2.2.2.2.2.2.2.1,h.2.2.2.2.2.2.2.2.2.1⟩
 |.nq,h=>⟨h.1,h.2.1,h.2.2.1,h.2.2.2.1,h.2.2.2.2.1,h.2.2.2.2.2.1⟩
 |.graph,h=>⟨h.1,h.2.1⟩
 |.ld,h=>⟨h.1,h.2.1,h.2.2.1⟩
 |.gd,h=>⟨h.1,h.2.1,h.2.2.1,h.2.2.2.1⟩
 |.nr,h=>⟨h.1,h.2.1,h.2.2.1,h.2.2.2.1⟩
 |.Change,h=>⟨h.1,h.2.1⟩
def gvS:Nat->Option ((c:CT SI)×CT.T se c):=λ_=>none
def xx:SX:={ toSE:=se,cW:=ano,get:=aok,make:=anZ,oR:=by intro i x;cases i<;>first|rfl|exact VI _,gb:=by intro i h;cases i<;>first|rfl|exact VI _,flat:=by intro i;cases i<;>rfl,gv:=gvS,zz:=λ_=>rfl }
abbrev cX:Value:=.slice none 0 0
abbrev dg:Value:=.int .i64 0
abbrev HF:Value:=.bool false
abbrev l4:Value:=.string ⟨#[]⟩
def tab:List (TypeId×px):=[
 (3,⟨1,8,false,[dg],.int .i64,[]⟩),
 (4,⟨1,1,false,[HF],.bool,[]⟩),
 (5,⟨1,1,false,[.int .u8 0],.int .u8,[]⟩),
 (9,⟨1,16,false,[l4],.str,[]⟩),
 (22,⟨1,24,false,[cX],.slice 100,[]⟩),
 (23,⟨1,24,false,[cX],.slice 107,[]⟩),
 (24,⟨1,24,false,[cX],.slice 103,[]⟩),
 (25,⟨1,24,false,[cX],.slice 90,[]⟩),
 (26,⟨1,24,false,[cX],.slice 105,[]⟩),
 (27,⟨1,24,false,[cX],.slice 367,[]⟩),
 (28,⟨1,24,false,[cX],.slice 365,[]⟩),
 (30,⟨8,176,true,[cX,cX,cX,cX,cX,cX,cX,dg],.struct [(0,22),(1,23),(2,24),(3,25),(4,26),(5,27),(6,28),(7,3)],[]⟩),
 (31,⟨1,24,false,[cX],.slice 67,[]⟩),
 (32,⟨1,24,false,[cX],.slice 69,[]⟩),
 (33,⟨1,24,false,[cX],.slice 369,[]⟩),
 (34,⟨1,24,false,[cX],.slice 184,[]⟩),
 (35,⟨1,24,false,[cX],.slice 95,[]⟩),
 (37,⟨13,296,true,[cX,cX,cX,cX,cX,cX,cX,dg,cX,cX,cX,cX,cX],.struct [(0,30),(8,31),(9,32),(10,33),(11,34),(12,35)],[]⟩),
 (38,⟨1,24,false,[cX],.slice 57,[]⟩),
 (40,⟨2,32,true,[dg,cX],.struct [(0,3),(1,38)],[]⟩),
 (43,⟨1,24,false,[cX],.slice 3,[]⟩),
 (45,⟨2,32,true,[cX,dg],.struct [(0,43),(1,3)],[]⟩),
 (55,⟨1,24,false,[cX],.slice 63,[]⟩),
 (57,⟨2,48,true,[cX,cX],.struct [(0,55),(1,35)],[]⟩),
 (59,⟨4,32,true,[dg,dg,dg,dg],.struct [(0,3),(1,3),(2,3),(3,3)],[0,0,0,0]⟩),
 (61,⟨6,48,true,[dg,dg,dg,dg,dg,dg],.struct [(0,59),(4,3),(5,3)],[]⟩),
 (63,⟨9,72,true,[dg,dg,dg,dg,dg,dg,dg,dg,HF],.struct [(0,61),(6,3),(7,3),(8,4)],[]⟩),
 (65,⟨1,24,false,[cX],.slice 59,[]⟩),
 (67,⟨4,64,true,[dg,dg,cX,cX],.struct [(0,3),(1,3),(2,65),(3,43)],[]⟩),
 (69,⟨3,40,true,[dg,cX,dg],.struct [(0,3),(1,65),(2,3)],[]⟩),
 (72,⟨1,24,false,[cX],.slice 9,[]⟩),
 (77,⟨1,24,false,[cX],.slice 45,[]⟩),
 (84,⟨1,24,false,[cX],.slice 86,[]⟩),
 (86,⟨5,72,true,[dg,dg,l4,l4,cX],.struct [(0,3),(1,3),(2,9),(3,9),(4,84)],[]⟩),
 (88,⟨4,32,true,[dg,dg,dg,dg],.struct [(0,3),(1,3),(2,3),(3,3)],[0,0,0,0]⟩),
 (90,⟨20,232,true,[l4,cX,cX,dg,dg,dg,HF,dg,dg,dg,l4,l4,cX,dg,dg,dg,dg,dg,dg,dg],.struct [(0,9),(1,72),(2,72),(3,3),(4,3),(5,3),(6,4),(7,3),(8,86),(13,88),(17,3),(18,3),(19,3)],[]⟩),
 (95,⟨2,24,true,[l4,dg],.struct [(0,9),(1,3)],[2,0]⟩),
 (100,⟨6,88,true,[l4,dg,dg,l4,l4,cX],.struct [(0,9),(1,86)],[]⟩),
 (101,⟨1,24,false,[cX],.slice 199,[]⟩),
 (103,⟨3,48,true,[l4,HF,cX],.struct [(0,9),(1,4),(2,101)],[]⟩),
 (105,⟨4,56,true,[l4,dg,dg,cX],.struct [(0,9),(1,3),(2,3),(3,101)],[]⟩),
 (107,⟨3,48,true,[l4,cX,dg],.struct [(0,9),(1,35),(2,3)],[]⟩),
 (109,⟨21,440,true,[cX,cX,cX,cX,cX,cX,cX,dg,cX,cX,cX,cX,cX,dg,dg,cX,cX,dg,cX,cX,cX],.struct [(0,37),(13,67),(17,40),(19,55),(20,72)],[]⟩),
 (118,⟨1,24,false,[cX],.slice 147,[]⟩),
 (126,⟨1,8,false,[.map none],.map 9 4,[]⟩),
 (141,⟨1,24,false,[cX],.slice 88,[]⟩),
 (147,⟨3,40,true,[dg,dg,cX],.struct [(0,3),(1,3),(2,65)],[]⟩),
 (167,⟨1,8,false,[.map none],.map 9 3,[]⟩),
 (169,⟨10,208,true,[cX,cX,cX,cX,cX,cX,cX,dg,.map none,cX],.struct [(0,30),(8,167),(9,72)],[]⟩),
 (173,⟨1,8,false,[.pointer none],.other,[]⟩),
 (175,⟨10,224,true,[cX,cX,cX,cX,cX,cX,cX,dg,cX,cX],.struct [(0,30),(8,65),(9,55)],[]⟩),
 (176,⟨1,8,false,[.nilFunc],.other,[]⟩),
 (178,⟨2,24,true,[l4,.nilFunc],.struct [(0,9),(1,176)],[]⟩),
 (179,⟨18,216,true,[l4,.nilFunc,l4,.nilFunc,l4,.nilFunc,l4,.nilFunc,l4,.nilFunc,l4,.nilFunc,l4,.nilFunc,l4,.nilFunc,l4,.nilFunc],.arr 9 178,[]⟩),
 (184,⟨10,80,true,[dg,dg,dg,dg,dg,dg,dg,dg,dg,HF],.struct [(0,3),(1,63)],[]⟩),
 (190,⟨1,8,false,[.int .u64 0],.int .u64,[]⟩),
 (199,⟨2,16,true,[dg,dg],.struct [(0,3),(1,3)],[0,0]⟩),
 (221,⟨1,24,false,[cX],.slice 226,[]⟩),
 (224,⟨1,24,false,[cX],.slice 251,[]⟩),
 (226,⟨3,40,true,[dg,dg,cX],.struct [(0,3),(1,3),(2,224)],[]⟩),
 (247,⟨4,32,true,[dg,dg,dg,dg],.arr 4 3,[]⟩),
 (251,⟨2,16,true,[dg,dg],.struct [(0,3),(1,3)],[0,0]⟩),
 (252,⟨1,24,false,[cX],.slice 65,[]⟩),
 (262,⟨1,24,false,[cX],.slice 265,[]⟩),
 (265,⟨4,32,true,[dg,dg,dg,dg],.struct [(0,199),(2,199)],[]⟩),
 (266,⟨1,24,false,[cX],.slice 43,[]⟩),
 (268,⟨2,48,true,[cX,cX],.struct [(0,22),(1,266)],[]⟩),
 (272,⟨1,24,false,[cX],.slice 4,[]⟩),
 (291,⟨6,96,true,[l4,l4,l4,l4,l4,l4],.arr 6 9,[]⟩),
 (297,⟨1,24,false,[cX],.slice 224,[]⟩),
 (365,⟨3,24,true,[dg,dg,dg],.struct [(0,3),(1,3),(2,3)],[0,0,0]⟩),
 (367,⟨6,72,true,[l4,dg,dg,dg,dg,cX],.struct [(0,9),(1,365),(4,3),(5,28)],[]⟩),
 (369,⟨4,32,true,[dg,dg,dg,dg],.struct [(0,3),(1,365)],[]⟩)]
def an0:List (TypeId×CT SI):=[(3,(.int .i64)),(4,.bool),(9,.str),(45,(.st SI.Change)),(57,(.st SI.Phase)),(59,(.st SI.mN)),(63,(.st SI.i6)),(65,(.sl (.st SI.mN))),(67,(.st SI.Lot)),(86,(.st SI.Expr)),(88,(.st SI.gd)),(90,(.st SI.Rule)),(95,(.st SI.Entry)),(147,(.st SI.ld)),(224,(.sl (.st SI.span))),(226,(.st SI.strip)),(251,(.st SI.span)),(265,(.st SI.side))]
def RM:TypeId->Option (CT xx.ι):=lk an0
theorem RK:fq Tryz.prog (UD tab):=ajI (by kernel_rfl)
theorem mixed:Tryz.prog.follows .mixedOrders=true:=Checked.mixed Tryz.checked
theorem cq{f:FuncId}{fn:Func}{l:List (FuncId×ca xx)}(hΓ:pL Tryz.prog (xz l))(hfn:Tryz.prog.funcs[f]? =some fn){s:ca xx}(h:Hn SI)(n:Nat)
 (hq : (fn.body.isSome && !(fn.name == "runtime.NumGoroutine") && decide (s.args.length <= fn.ntmps /\ vM s.args <= 1000 /\ (s.res.filter RT.out).length = vM s.args)) = true := by kernel_rfl) (hg : s.gen = none := by rfl)
 (hr:∀a,run (xz l) (UD tab) RM fn.ntmps n (fn.body.getD .skip) (sJ xx s.res) h (B4 s.args a) (anM (UD tab) fn.results.toList s.res)=s.fn a:=by intro _;kernel_rfl):A5 Tryz.prog f s:=by
 rw[bg,bg]at hq;obtain⟨⟨q1,q2⟩,q3⟩:=hq;have hb:fn.body=some (fn.body.getD .skip):=by
  cases hc:fn.body with
  |none=>rw[hc]at q1;cases q1
  |some c=>rfl
 have hn : (fn.name == "runtime.NumGoroutine") = false := by simpa using q2
 exact yd (pz hfn hb hn) (λ a _ e=>anN RK mixed hΓ hfn hb hn _ _ (of_decide_eq_true q3) h n ((hr a).trans e)) hg
theorem oB{f:FuncId}{fn:Func}{l:List (FuncId×ca xx)}(hΓ:pL Tryz.prog (xz l))(hfn:Tryz.prog.funcs[f]? =some fn){g:cN xx}(h:Hn SI)(n:Nat)
 (hq : (fn.body.isSome && !(fn.name == "runtime.NumGoroutine") && decide (g.ml.length <= fn.ntmps) && g.B5) = true)
 (hr:∀v,run (xz l) (UD tab) RM fn.ntmps n (fn.body.getD .skip) (VT (X:=xx) (vQ g).vars) h (Mj g v) (RW (UD tab) fn.results.toList g)=g.fn v):A5 Tryz.prog f ⟨[],[.d .bool],λ_=>none,some g⟩:=by
 rw[bg,bg,bg]at hq;obtain⟨⟨⟨q1,q2⟩,q3⟩,q4⟩:=hq;have hb:fn.body=some (fn.body.getD .skip):=by
  cases hc:fn.body with
  |none=>rw[hc]at q1;cases q1
  |some c=>rfl
 have hn : (fn.name == "runtime.NumGoroutine") = false := by simpa using q2
 exact Q3 (pz hfn hb hn) (am6 RK mixed hΓ hfn hb hn g (of_decide_eq_true q3) q4 h n (λ v _ e=>(hr v).trans e))
theorem gcn:pL Tryz.prog (xz ([]:List (FuncId×ca xx))):=aB
abbrev af:CT SI:=.int .i64
abbrev aU:CT SI:=.st SI.Rule
abbrev aZ:CT SI:=.st SI.Def
abbrev gK:CT SI:=.st SI.Entry
abbrev aS:CT SI:=.st SI.Table
abbrev bn:CT SI:=.st SI.Zone
abbrev bC:CT SI:=.st SI.Cap
abbrev aP:CT SI:=.st SI.gj
abbrev bB:CT SI:=.st SI.View
abbrev aA:CT SI:=.st SI.mN
abbrev aF:CT SI:=.st SI.i6
abbrev dI:CT SI:=.st SI.eC
abbrev aJ:CT SI:=.st SI.Change
abbrev aH(f:Nat)(s:ca xx):Prop:=A5 Tryz.prog f s
abbrev iC:=(List gP)×(List cO)×(List fJ)×(List bP)×(List ji)×(List ic)×(List dw)×Int×(List au)×(List aC)
end Go.Proofs
