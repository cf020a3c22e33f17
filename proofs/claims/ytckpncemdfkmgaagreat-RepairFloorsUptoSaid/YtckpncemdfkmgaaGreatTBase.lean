import Derived.Test.YtckpncemdfkmgaaGreatH1
import Derived.Test.YtckpncemdfkmgaaGreatChecked
namespace Go.Proofs
open Go.Gb Go.RowKit
structure bV where
 op:Int
 n:Int
 s:ByteArray
 key:ByteArray
 args:(List bV)
mutual
def qZ:bV->List Tree
 |⟨f0,f1,f2,f3,f4⟩=>[.sc (.int .i64 f0),.sc (.int .i64 f1),.sc (.string f2),.sc (.string f3),.sl (sV f4)]
def sV:List bV->List (List Tree)
 |[]=>[]
 |x::xs=>qZ x::sV xs
end
theorem sW:∀l:List bV,sV l=l.map qZ
 |[]=>rfl
 |x::xs=>by rw[sV,sW xs];rfl
theorem VY(x:bV):qZ x=[.sc (.int .i64 x.op),.sc (.int .i64 x.n),.sc (.string x.s),.sc (.string x.key),.sl (x.args.map qZ)]:=by cases x;simp only[qZ,sW]
structure cK where
 name:ByteArray
 zones:(List ByteArray)
 except:(List ByteArray)
 from_:Int
 ka:Int
 z6:Int
 vary:Bool
 kind:Int
 ky:Int
 m5:Int
 mT:ByteArray
 i9:ByteArray
 fR:(List bV)
 gS:Int
 hZ:Int
 jj:Int
 jn:Int
 uses:Int
 other:Int
 n:Int
def xk(x:cK):List Tree:=[.sc (.string x.name),.sl (x.zones.map (λ y=>[.sc (.string y)])),.sl (x.except.map (λ y=>[.sc (.string y)])),.sc (.int .i64 x.from_),.sc (.int .i64 x.ka),.sc (.int .i64 x.z6),.sc (.bool x.vary),.sc (.int .i64 x.kind),.sc (.int .i64 x.ky),.sc (.int .i64 x.m5),.sc (.string x.mT),.sc (.string x.i9),.sl (x.fR.map qZ),.sc (.int .i64 x.gS),.sc (.int .i64 x.hZ),.sc (.int .i64 x.jj),.sc (.int .i64 x.jn),.sc (.int .i64 x.uses),.sc (.int .i64 x.other),.sc (.int .i64 x.n)]
structure gT where
 name:ByteArray
 iu:Int
 lw:Int
 kq:ByteArray
 ik:ByteArray
 el:(List bV)
def Ec(x:gT):List Tree:=[.sc (.string x.name),.sc (.int .i64 x.iu),.sc (.int .i64 x.lw),.sc (.string x.kq),.sc (.string x.ik),.sl (x.el.map qZ)]
structure bD where
 name:ByteArray
 n:Int
 deriving DecidableEq,Inhabited
def Ho(x:bD):List Tree:=[.sc (.string x.name),.sc (.int .i64 x.n)]
structure cO where
 name:ByteArray
 rows:(List bD)
 sf:Int
 deriving DecidableEq,Inhabited
def Hq(x:cO):List Tree:=[.sc (.string x.name),.sl (x.rows.map Ho),.sc (.int .i64 x.sf)]
structure eD where
 x:Int
 y:Int
 deriving DecidableEq,Inhabited
def VZ(x:eD):List Tree:=[.sc (.int .i64 x.x),.sc (.int .i64 x.y)]
structure fG where
 name:ByteArray
 overlay:Bool
 corners:(List eD)
 deriving DecidableEq,Inhabited
def MH(x:fG):List Tree:=[.sc (.string x.name),.sc (.bool x.overlay),.sl (x.corners.map VZ)]
structure jr where
 name:ByteArray
 load:Int
 limit:Int
 corners:(List eD)
 deriving DecidableEq,Inhabited
def V3(x:jr):List Tree:=[.sc (.string x.name),.sc (.int .i64 x.load),.sc (.int .i64 x.limit),.sl (x.corners.map VZ)]
structure dD where
 x:Int
 y:Int
 z:Int
 deriving DecidableEq,Inhabited
def xX(x:dD):List Tree:=[.sc (.int .i64 x.x),.sc (.int .i64 x.y),.sc (.int .i64 x.z)]
structure iw where
 name:ByteArray
 Ax:Int
 At:Int
 As:Int
 least:Int
 targets:(List dD)
 deriving DecidableEq,Inhabited
def MI(x:iw):List Tree:=[.sc (.string x.name),.sc (.int .i64 x.Ax),.sc (.int .i64 x.At),.sc (.int .i64 x.As),.sc (.int .i64 x.least),.sl (x.targets.map xX)]
structure ax where
 x0:Int
 y0:Int
 x1:Int
 y1:Int
 deriving DecidableEq,Inhabited
def Jh(x:ax):List Tree:=[.sc (.int .i64 x.x0),.sc (.int .i64 x.y0),.sc (.int .i64 x.x1),.sc (.int .i64 x.y1)]
structure iK where
 id:Int
 owner:Int
 area:(List ax)
 from_:(List Int)
 deriving DecidableEq,Inhabited
def AB(x:iK):List Tree:=[.sc (.int .i64 x.id),.sc (.int .i64 x.owner),.sl (x.area.map Jh),.sl (x.from_.map (λ y=>[.sc (.int .i64 y)]))]
structure jH where
 lot:Int
 area:(List ax)
 top:Int
 deriving DecidableEq,Inhabited
def Hr(x:jH):List Tree:=[.sc (.int .i64 x.lot),.sl (x.area.map Jh),.sc (.int .i64 x.top)]
structure zV where
 lot:Int
 Mp:Int
 Mo:Int
 Mn:Int
 deriving DecidableEq,Inhabited
def Po(x:zV):List Tree:=[.sc (.int .i64 x.lot),.sc (.int .i64 x.Mp),.sc (.int .i64 x.Mo),.sc (.int .i64 x.Mn)]
structure iP where
 lot:Int
 ej:Int
 ef:Int
 eh:Int
 ee:Int
 lh:Int
 lf:Int
 eQ:Int
 ma:Int
 mf:Bool
 deriving DecidableEq,Inhabited
def Pp(x:iP):List Tree:=[.sc (.int .i64 x.lot),.sc (.int .i64 x.ej),.sc (.int .i64 x.ef),.sc (.int .i64 x.eh),.sc (.int .i64 x.ee),.sc (.int .i64 x.lh),.sc (.int .i64 x.lf),.sc (.int .i64 x.eQ),.sc (.int .i64 x.ma),.sc (.bool x.mf)]
structure fP where
 cm:(List gT)
 cd:(List cO)
 ca:(List fG)
 bm:(List cK)
 co:(List jr)
 ci:(List iw)
 cD:(List dD)
 cj:Int
 land:(List iK)
 cw:(List jH)
 windows:(List zV)
 built:(List iP)
 base:(List bD)
def Ji(x:fP):List Tree:=[.sl (x.cm.map Ec),.sl (x.cd.map Hq),.sl (x.ca.map MH),.sl (x.bm.map xk),.sl (x.co.map V3),.sl (x.ci.map MI),.sl (x.cD.map xX),.sc (.int .i64 x.cj),.sl (x.land.map AB),.sl (x.cw.map Hr),.sl (x.windows.map Po),.sl (x.built.map Pp),.sl (x.base.map Ho)]
structure ay where
 bj:Int
 bp:Int
 be:Int
 bo:Int
 b9:Int
 ch:Int
 use:Int
 units:Int
 extra:Bool
 deriving DecidableEq,Inhabited
def Jj(x:ay):List Tree:=[.sc (.int .i64 x.bj),.sc (.int .i64 x.bp),.sc (.int .i64 x.be),.sc (.int .i64 x.bo),.sc (.int .i64 x.b9),.sc (.int .i64 x.ch),.sc (.int .i64 x.use),.sc (.int .i64 x.units),.sc (.bool x.extra)]
structure eF where
 az:(List ay)
 gives:(List bD)
 deriving DecidableEq,Inhabited
def V4(x:eF):List Tree:=[.sl (x.az.map Jj),.sl (x.gives.map Ho)]
structure aG where
 lot:Int
 phases:(List eF)
 deriving DecidableEq,Inhabited
def V5(x:aG):List Tree:=[.sc (.int .i64 x.lot),.sl (x.phases.map V4)]
structure yf where
 mA:Int
 my:Int
 mz:Int
 mw:Int
 z0:Int
 z1:Int
 deriving DecidableEq,Inhabited
def anN(x:yf):List Tree:=[.sc (.int .i64 x.mA),.sc (.int .i64 x.my),.sc (.int .i64 x.mz),.sc (.int .i64 x.mw),.sc (.int .i64 x.z0),.sc (.int .i64 x.z1)]
structure aK where
 from_:Int
 to:Int
 deriving DecidableEq,Inhabited
def ahM(x:aK):List Tree:=[.sc (.int .i64 x.from_),.sc (.int .i64 x.to)]
structure bQ where
 x0:Int
 x1:Int
 column:(List aK)
 deriving DecidableEq,Inhabited
def akS(x:bQ):List Tree:=[.sc (.int .i64 x.x0),.sc (.int .i64 x.x1),.sl (x.column.map ahM)]
structure bT where
 defs:(List gT)
 tables:(List cO)
 zones:(List fG)
 rules:(List cK)
 caps:(List jr)
 views:(List iw)
 sm:(List dD)
 hours:Int
def abm(x:bT):List Tree:=[.sl (x.defs.map Ec),.sl (x.tables.map Hq),.sl (x.zones.map MH),.sl (x.rules.map xk),.sl (x.caps.map V3),.sl (x.views.map MI),.sl (x.sm.map xX),.sc (.int .i64 x.hours)]
structure jW where
 ly:Int
 pH:Int
 mC:Int
 ut:Int
 deriving DecidableEq,Inhabited
def aml(x:jW):List Tree:=[.sc (.int .i64 x.ly),.sc (.int .i64 x.pH),.sc (.int .i64 x.mC),.sc (.int .i64 x.ut)]
structure mI where
 fg:(List gT)
 ey:(List cO)
 eI:(List fG)
 eK:(List cK)
 fh:(List jr)
 eJ:(List iw)
 fX:(List dD)
 eM:Int
 p6:(List iK)
 ke:(List jH)
 mi:(List zV)
 fL:(List iP)
 p7:(List bD)
 sL:Int
 m8:Int
 kh:(List ax)
 pd:(List Int)
 dC:Int
 ii:(List eF)
 az:(List ay)
 zones:(List ByteArray)
def akT(x:mI):List Tree:=[.sl (x.fg.map Ec),.sl (x.ey.map Hq),.sl (x.eI.map MH),.sl (x.eK.map xk),.sl (x.fh.map V3),.sl (x.eJ.map MI),.sl (x.fX.map xX),.sc (.int .i64 x.eM),.sl (x.p6.map AB),.sl (x.ke.map Hr),.sl (x.mi.map Po),.sl (x.fL.map Pp),.sl (x.p7.map Ho),.sc (.int .i64 x.sL),.sc (.int .i64 x.m8),.sl (x.kh.map Jh),.sl (x.pd.map (λ y=>[.sc (.int .i64 y)])),.sc (.int .i64 x.dC),.sl (x.ii.map V4),.sl (x.az.map Jj),.sl (x.zones.map (λ y=>[.sc (.string y)]))]
structure am8 where
 cm:(List gT)
 cd:(List cO)
 ca:(List fG)
 bm:(List cK)
 co:(List jr)
 ci:(List iw)
 cD:(List dD)
 cj:Int
 area:(List ax)
 az:(List ay)
def amm(x:am8):List Tree:=[.sl (x.cm.map Ec),.sl (x.cd.map Hq),.sl (x.ca.map MH),.sl (x.bm.map xk),.sl (x.co.map V3),.sl (x.ci.map MI),.sl (x.cD.map xX),.sc (.int .i64 x.cj),.sl (x.area.map Jh),.sl (x.az.map Jj)]
structure Jk where
 a0:ByteArray
 a1:ByteArray
 a2:ByteArray
 a3:ByteArray
 a4:ByteArray
 a5:ByteArray
 deriving DecidableEq,Inhabited
def ai1(x:Jk):List Tree:=[.sc (.string x.a0),.sc (.string x.a1),.sc (.string x.a2),.sc (.string x.a3),.sc (.string x.a4),.sc (.string x.a5)]
structure pE where
 defs:(List gT)
 uses:(List (List Int))
def akU(x:pE):List Tree:=[.sl (x.defs.map Ec),.sl (x.uses.map (λ y=>[.sl (y.map (λ y=>[.sc (.int .i64 y)]))]))]
structure gU where
 z0:Int
 z1:Int
 area:(List ax)
 deriving DecidableEq,Inhabited
def amn(x:gU):List Tree:=[.sc (.int .i64 x.z0),.sc (.int .i64 x.z1),.sl (x.area.map Jh)]
structure d9 where
 side:Int
 base:Int
 num:Int
 den:Int
 deriving DecidableEq,Inhabited
def akV(x:d9):List Tree:=[.sc (.int .i64 x.side),.sc (.int .i64 x.base),.sc (.int .i64 x.num),.sc (.int .i64 x.den)]
structure MJ where
 a0:Int
 a1:Int
 a2:Int
 a3:Int
 deriving DecidableEq,Inhabited
def ai2(x:MJ):List Tree:=[.sc (.int .i64 x.a0),.sc (.int .i64 x.a1),.sc (.int .i64 x.a2),.sc (.int .i64 x.a3)]
structure aD where
 floors:(List Int)
 cost:Int
 deriving DecidableEq,Inhabited
def ai3(x:aD):List Tree:=[.sl (x.floors.map (λ y=>[.sc (.int .i64 y)])),.sc (.int .i64 x.cost)]
inductive SI where
 |Expr
 |Rule
 |Def
 |Entry
 |Table
 |iv
 |Zone
 |Cap
 |gj
 |View
 |mL
 |Lot
 |eE
 |Window
 |fW
 |oB
 |i6
 |Phase
 |ga
 |Bi
 |span
 |strip
 |i7
 |side
 |kf
 |site
 |nj
 |graph
 |ld
 |gd
 |np
 |Change
 deriving DecidableEq
@[reducible] def TT:SI->Type
 |.Expr=>bV
 |.Rule=>cK
 |.Def=>gT
 |.Entry=>bD
 |.Table=>cO
 |.iv=>eD
 |.Zone=>fG
 |.Cap=>jr
 |.gj=>dD
 |.View=>iw
 |.mL=>ax
 |.Lot=>iK
 |.eE=>jH
 |.Window=>zV
 |.fW=>iP
 |.oB=>fP
 |.i6=>ay
 |.Phase=>eF
 |.ga=>aG
 |.Bi=>yf
 |.span=>aK
 |.strip=>bQ
 |.i7=>bT
 |.side=>jW
 |.kf=>mI
 |.site=>am8
 |.nj=>Jk
 |.graph=>pE
 |.ld=>gU
 |.gd=>d9
 |.np=>MJ
 |.Change=>aD
def aoF:(i:SI)->TT i->List Tree
 |.Expr,x=>qZ x
 |.Rule,x=>xk x
 |.Def,x=>Ec x
 |.Entry,x=>Ho x
 |.Table,x=>Hq x
 |.iv,x=>VZ x
 |.Zone,x=>MH x
 |.Cap,x=>V3 x
 |.gj,x=>xX x
 |.View,x=>MI x
 |.mL,x=>Jh x
 |.Lot,x=>AB x
 |.eE,x=>Hr x
 |.Window,x=>Po x
 |.fW,x=>Pp x
 |.oB,x=>Ji x
 |.i6,x=>Jj x
 |.Phase,x=>V4 x
 |.ga,x=>V5 x
 |.Bi,x=>anN x
 |.span,x=>ahM x
 |.strip,x=>akS x
 |.i7,x=>abm x
 |.side,x=>aml x
 |.kf,x=>akT x
 |.site,x=>amm x
 |.nj,x=>ai1 x
 |.graph,x=>akU x
 |.ld,x=>amn x
 |.gd,x=>akV x
 |.np,x=>ai2 x
 |.Change,x=>ai3 x
def se:SE:=⟨SI,inferInstance,TT,aoF⟩
def anO:SI->List (CT SI)
 |.Expr=>[(.int .i64),(.int .i64),.str,.str,(.sl (.st SI.Expr))]
 |.Rule=>[.str,(.sl .str),(.sl .str),(.int .i64),(.int .i64),(.int .i64),.bool,(.int .i64),(.int .i64),(.int .i64),.str,.str,(.sl (.st SI.Expr)),(.int .i64),(.int .i64),(.int .i64),(.int .i64),(.int .i64),(.int .i64),(.int .i64)]
 |.Def=>[.str,(.int .i64),(.int .i64),.str,.str,(.sl (.st SI.Expr))]
 |.Entry=>[.str,(.int .i64)]
 |.Table=>[.str,(.sl (.st SI.Entry)),(.int .i64)]
 |.iv=>[(.int .i64),(.int .i64)]
 |.Zone=>[.str,.bool,(.sl (.st SI.iv))]
 |.Cap=>[.str,(.int .i64),(.int .i64),(.sl (.st SI.iv))]
 |.gj=>[(.int .i64),(.int .i64),(.int .i64)]
 |.View=>[.str,(.int .i64),(.int .i64),(.int .i64),(.int .i64),(.sl (.st SI.gj))]
 |.mL=>[(.int .i64),(.int .i64),(.int .i64),(.int .i64)]
 |.Lot=>[(.int .i64),(.int .i64),(.sl (.st SI.mL)),(.sl (.int .i64))]
 |.eE=>[(.int .i64),(.sl (.st SI.mL)),(.int .i64)]
 |.Window=>[(.int .i64),(.int .i64),(.int .i64),(.int .i64)]
 |.fW=>[(.int .i64),(.int .i64),(.int .i64),(.int .i64),(.int .i64),(.int .i64),(.int .i64),(.int .i64),(.int .i64),.bool]
 |.oB=>[(.sl (.st SI.Def)),(.sl (.st SI.Table)),(.sl (.st SI.Zone)),(.sl (.st SI.Rule)),(.sl (.st SI.Cap)),(.sl (.st SI.View)),(.sl (.st SI.gj)),(.int .i64),(.sl (.st SI.Lot)),(.sl (.st SI.eE)),(.sl (.st SI.Window)),(.sl (.st SI.fW)),(.sl (.st SI.Entry))]
 |.i6=>[(.int .i64),(.int .i64),(.int .i64),(.int .i64),(.int .i64),(.int .i64),(.int .i64),(.int .i64),.bool]
 |.Phase=>[(.sl (.st SI.i6)),(.sl (.st SI.Entry))]
 |.ga=>[(.int .i64),(.sl (.st SI.Phase))]
 |.Bi=>[(.int .i64),(.int .i64),(.int .i64),(.int .i64),(.int .i64),(.int .i64)]
 |.span=>[(.int .i64),(.int .i64)]
 |.strip=>[(.int .i64),(.int .i64),(.sl (.st SI.span))]
 |.i7=>[(.sl (.st SI.Def)),(.sl (.st SI.Table)),(.sl (.st SI.Zone)),(.sl (.st SI.Rule)),(.sl (.st SI.Cap)),(.sl (.st SI.View)),(.sl (.st SI.gj)),(.int .i64)]
 |.side=>[(.int .i64),(.int .i64),(.int .i64),(.int .i64)]
 |.kf=>[(.sl (.st SI.Def)),(.sl (.st SI.Table)),(.sl (.st SI.Zone)),(.sl (.st SI.Rule)),(.sl (.st SI.Cap)),(.sl (.st SI.View)),(.sl (.st SI.gj)),(.int .i64),(.sl (.st SI.Lot)),(.sl (.st SI.eE)),(.sl (.st SI.Window)),(.sl (.st SI.fW)),(.sl (.st SI.Entry)),(.int .i64),(.int .i64),(.sl (.st SI.mL)),(.sl (.int .i64)),(.int .i64),(.sl (.st SI.Phase)),(.sl (.st SI.i6)),(.sl .str)]
 |.site=>[(.sl (.st SI.Def)),(.sl (.st SI.Table)),(.sl (.st SI.Zone)),(.sl (.st SI.Rule)),(.sl (.st SI.Cap)),(.sl (.st SI.View)),(.sl (.st SI.gj)),(.int .i64),(.sl (.st SI.mL)),(.sl (.st SI.i6))]
 |.nj=>[.str,.str,.str,.str,.str,.str]
 |.graph=>[(.sl (.st SI.Def)),(.sl (.sl (.int .i64)))]
 |.ld=>[(.int .i64),(.int .i64),(.sl (.st SI.mL))]
 |.gd=>[(.int .i64),(.int .i64),(.int .i64),(.int .i64)]
 |.np=>[(.int .i64),(.int .i64),(.int .i64),(.int .i64)]
 |.Change=>[(.sl (.int .i64)),(.int .i64)]
def aoG:(i:SI)->TT i->HL se (anO i)
 |.Expr,x=>(x.op,x.n,x.s,x.key,x.args,())
 |.Rule,x=>(x.name,x.zones,x.except,x.from_,x.ka,x.z6,x.vary,x.kind,x.ky,x.m5,x.mT,x.i9,x.fR,x.gS,x.hZ,x.jj,x.jn,x.uses,x.other,x.n,())
 |.Def,x=>(x.name,x.iu,x.lw,x.kq,x.ik,x.el,())
 |.Entry,x=>(x.name,x.n,())
 |.Table,x=>(x.name,x.rows,x.sf,())
 |.iv,x=>(x.x,x.y,())
 |.Zone,x=>(x.name,x.overlay,x.corners,())
 |.Cap,x=>(x.name,x.load,x.limit,x.corners,())
 |.gj,x=>(x.x,x.y,x.z,())
 |.View,x=>(x.name,x.Ax,x.At,x.As,x.least,x.targets,())
 |.mL,x=>(x.x0,x.y0,x.x1,x.y1,())
 |.Lot,x=>(x.id,x.owner,x.area,x.from_,())
 |.eE,x=>(x.lot,x.area,x.top,())
 |.Window,x=>(x.lot,x.Mp,x.Mo,x.Mn,())
 |.fW,x=>(x.lot,x.ej,x.ef,x.eh,x.ee,x.lh,x.lf,x.eQ,x.ma,x.mf,())
 |.oB,x=>(x.cm,x.cd,x.ca,x.bm,x.co,x.ci,x.cD,x.cj,x.land,x.cw,x.windows,x.built,x.base,())
 |.i6,x=>(x.bj,x.bp,x.be,x.bo,x.b9,x.ch,x.use,x.units,x.extra,())
 |.Phase,x=>(x.az,x.gives,())
 |.ga,x=>(x.lot,x.phases,())
 |.Bi,x=>(x.mA,x.my,x.mz,x.mw,x.z0,x.z1,())
 |.span,x=>(x.from_,x.to,())
 |.strip,x=>(x.x0,x.x1,x.column,())
 |.i7,x=>(x.defs,x.tables,x.zones,x.rules,x.caps,x.views,x.sm,x.hours,())
 |.side,x=>(x.ly,x.pH,x.mC,x.ut,())
 |.kf,x=>(x.fg,x.ey,x.eI,x.eK,x.fh,x.eJ,x.fX,x.eM,x.p6,x.ke,x.mi,x.fL,x.p7,x.sL,x.m8,x.kh,x.pd,x.dC,x.ii,x.az,x.zones,())
 |.site,x=>(x.cm,x.cd,x.ca,x.bm,x.co,x.ci,x.cD,x.cj,x.area,x.az,())
 |.nj,x=>(x.a0,x.a1,x.a2,x.a3,x.a4,x.a5,())
 |.graph,x=>(x.defs,x.uses,())
 |.ld,x=>(x.z0,x.z1,x.area,())
 |.gd,x=>(x.side,x.base,x.num,x.den,())
 |.np,x=>(x.a0,x.a1,x.a2,x.a3,())
 |.Change,x=>(x.floors,x.cost,())
def aoo:(i:SI)->HL se (anO i)->TT i
 |.Expr,h=>⟨h.1,h.2.1,h.2.2.1,h.2.2.2.1,h.2.2.2.2.1⟩
 |.Rule,h=>⟨h.1,h.2.1,h.2.2.1,h.2.2.2.1,h.2.2.2.2.1,h.2.2.2.2.2.1,h.2.2.2.2.2.2.1,h.2.2.2.2.2.2.2.1,h.2.2.2.2.2.2.2.2.1,h.2.2.2.2.2.2.2.2.2.1,h.2.2.2.2.2.2.2.2.2.2.1,h.2.2.2.2.2.2.2.2.2.2.2.1,h.2.2.2.2.2.2.2.2.2.2.2.2.1,h.2.2.2.2.2.2.2.2.2.2.2.2.2.1,h.2.2.2.2.2.2.2.2.2.2.2.2.2.2.1,h.2.2.2.2.2.2.2.2.2.2.2.2.2.2.2.1,h.2.2.2.2.2.2.2.2.2.2.2.2.2.2.2.2.1,h.2.2.2.2.2.2.2.2.2.2.2.2.2.2.2.2.2.1,h.2.2.2.2.2.2.2.2.2.2.2.2.2.2.2.2.2.2.1,h.2.2.2.2.2.2.2.2.2.2.2.2.2.2.2.2.2.2.2.1⟩
 |.Def,h=>⟨h.1,h.2.1,h.2.2.1,h.2.2.2.1,h.2.2.2.2.1,h.2.2.2.2.2.1⟩
 |.Entry,h=>⟨h.1,h.2.1⟩
 |.Table,h=>⟨h.1,h.2.1,h.2.2.1⟩
 |.iv,h=>⟨h.1,h.2.1⟩
 |.Zone,h=>⟨h.1,h.2.1,h.2.2.1⟩
 |.Cap,h=>⟨h.1,h.2.1,h.2.2.1,h.2.2.2.1⟩
 |.gj,h=>⟨h.1,h.2.1,h.2.2.1⟩
 |.View,h=>⟨h.1,h.2.1,h.2.2.1,h.2.2.2.1,h.2.2.2.2.1,h.2.2.2.2.2.1⟩
 |.mL,h=>⟨h.1,h.2.1,h.2.2.1,h.2.2.2.1⟩
 |.Lot,h=>⟨h.1,h.2.1,h.2.2.1,h.2.2.2.1⟩
 |.eE,h=>⟨h.1,h.2.1,h.2.2.1⟩
 |.Window,h=>⟨h.1,h.2.1,h.2.2.1,h.2.2.2.1⟩
 |.fW,h=>⟨h.1,h.2.1,h.2.2.1,h.2.2.2.1,h.2.2.2.2.1,h.2.2.2.2.2.1,h.2.2.2.2.2.2.1,h.2.2.2.2.2.2.2.1,h.2.2.2.2.2.2.2.2.1,h.2.2.2.2.2.2.2.2.2.1⟩
 |.oB,h=>⟨h.1,h.2.1,h.2.2.1,h.2.2.2.1,h.2.2.2.2.1,h.2.2.2.2.2.1,h.2.2.2.2.2.2.1,h.2.2.2.2.2.2.2.1,h.2.2.2.2.2.2.2.2.1,h.2.2.2.2.2.2.2.2.2.1,h.2.2.2.2.2.2.2.2.2.2.1,h.2.2.2.2.2.2.2.2.2.2.2.1,h.2.2.2.2.2.2.2.2.2.2.2.2.1⟩
 |.i6,h=>⟨h.1,h.2.1,h.2.2.1,h.2.2.2.1,h.2.2.2.2.1,h.2.2.2.2.2.1,h.2.2.2.2.2.2.1,h.2.2.2.2.2.2.2.1,h.2.2.2.2.2.2.2.2.1⟩
 |.Phase,h=>⟨h.1,h.2.1⟩
 |.ga,h=>⟨h.1,h.2.1⟩
 |.Bi,h=>⟨h.1,h.2.1,h.2.2.1,h.2.2.2.1,h.2.2.2.2.1,h.2.2.2.2.2.1⟩
 |.span,h=>⟨h.1,h.2.1⟩
 |.strip,h=>⟨h.1,h.2.1,h.2.2.1⟩
 |.i7,h=>⟨h.1,h.2.1,h.2.2.1,h.2.2.2.1,h.2.2.2.2.1,h.2.2.2.2.2.1,h.2.2.2.2.2.2.1,h.2.2.2.2.2.2.2.1⟩
 |.side,h=>⟨h.1,h.2.1,h.2.2.1,h.2.2.2.1⟩
 |.kf,h=>⟨h.1,h.2.1,h.2.2.1,h.2.2.2.1,h.2.2.2.2.1,h.2.2.2.2.2.1,h.2.2.2.2.2.2.1,h.2.2.2.2.2.2.2.1,h.2.2.2.2.2.2.2.2.1,h.2.2.2.2.2.2.2.2.2.1,h.2.2.2.2.2.2.2.2.2.2.1,h.2.2.2.2.2.2.2.2.2.2.2.1,h.2.2.2.2.2.2.2.2.2.2.2.2.1,h.2.2.2.2.2.2.2.2.2.2.2.2.2.1,h.2.2.2.2.2.2.2.2.2.2.2.2.2.2.1,h.2.2.2.2.2.2.2.2.2.2.2.2.2.2.2.1,h.2.2.2.2.2.2.2.2.2.2.2.2.2.2.2.2.1,h.2.2.2.2.2.2.2.2.2.2.2.2.2.2.2.2.2.1,h.2.2.2.2.2.2.2.2.2.2.2.2.2.2.2.2.2.2.1,h.2.2.2.2.2.2.2.2.2.2.2.2.2.2.2.2.2.2.2.1,h.2.2.2.2.2.2.2.2.2.2.2.2.2.2.2.2.2.2.2.2.1⟩
 |.site,h=>⟨h.1,h.2.1,h.2.2.1,h.2.2.2.1,h.2.2.2.2.1,h.2.2.2.2.2.1,h.2.2.2.2.2.2.1,h.2.2.2.2.2.2.2.1,h.2.2.2.2.2.2.2.2.1,h.2.2.2.2.2.2.2.2.2.1⟩
 |.nj,h=>⟨h.1,h.2.1,h.2.2.1,h.2.2.2.1,h.2.2.2.2.1,h.2.2.2.2.2.1⟩
 |.graph,h=>⟨h.1,h.2.1⟩
 |.ld,h=>⟨h.1,h.2.1,h.2.2.1⟩
 |.gd,h=>⟨h.1,h.2.1,h.2.2.1,h.2.2.2.1⟩
 |.np,h=>⟨h.1,h.2.1,h.2.2.1,h.2.2.2.1⟩
 |.Change,h=>⟨h.1,h.2.1⟩
def gvS:Nat->Option ((c:CT SI)×CT.T se c):=λ_=>none
def xx:SX:={ toSE:=se,cV:=anO,get:=aoG,make:=aoo,oR:=by intro i x;cases i<;>first|rfl|exact VY _,gb:=by intro i h;cases i<;>first|rfl|exact VY _,flat:=by intro i;cases i<;>rfl,gv:=gvS,zE:=λ_=>rfl }
abbrev cW:Value:=.slice none 0 0
abbrev df:Value:=.int .i64 0
abbrev HG:Value:=.bool false
abbrev lP:Value:=.string ⟨#[]⟩
def tab:List (TypeId×px):=[
 (3,⟨1,8,false,[df],.int .i64,[]⟩),
 (4,⟨1,1,false,[HG],.bool,[]⟩),
 (9,⟨1,16,false,[lP],.str,[]⟩),
 (22,⟨1,24,false,[cW],.slice 120,[]⟩),
 (23,⟨1,24,false,[cW],.slice 124,[]⟩),
 (24,⟨1,24,false,[cW],.slice 122,[]⟩),
 (25,⟨1,24,false,[cW],.slice 105,[]⟩),
 (26,⟨1,24,false,[cW],.slice 86,[]⟩),
 (27,⟨1,24,false,[cW],.slice 368,[]⟩),
 (28,⟨1,24,false,[cW],.slice 366,[]⟩),
 (30,⟨8,176,true,[cW,cW,cW,cW,cW,cW,cW,df],.struct [(0,22),(1,23),(2,24),(3,25),(4,26),(5,27),(6,28),(7,3)],[]⟩),
 (31,⟨1,24,false,[cW],.slice 51,[]⟩),
 (32,⟨1,24,false,[cW],.slice 3,[]⟩),
 (34,⟨4,64,true,[df,df,cW,cW],.struct [(0,3),(1,3),(2,31),(3,32)],[]⟩),
 (35,⟨1,24,false,[cW],.slice 69,[]⟩),
 (37,⟨2,32,true,[df,cW],.struct [(0,3),(1,35)],[]⟩),
 (40,⟨1,24,false,[cW],.slice 34,[]⟩),
 (41,⟨1,24,false,[cW],.slice 72,[]⟩),
 (42,⟨1,24,false,[cW],.slice 370,[]⟩),
 (43,⟨1,24,false,[cW],.slice 243,[]⟩),
 (44,⟨1,24,false,[cW],.slice 82,[]⟩),
 (46,⟨13,296,true,[cW,cW,cW,cW,cW,cW,cW,df,cW,cW,cW,cW,cW],.struct [(0,30),(8,40),(9,41),(10,42),(11,43),(12,44)],[]⟩),
 (48,⟨1,24,false,[cW],.slice 55,[]⟩),
 (51,⟨4,32,true,[df,df,df,df],.struct [(0,3),(1,3),(2,3),(3,3)],[0,0,0,0]⟩),
 (53,⟨6,48,true,[df,df,df,df,df,df],.struct [(0,51),(4,3),(5,3)],[]⟩),
 (55,⟨9,72,true,[df,df,df,df,df,df,df,df,HG],.struct [(0,53),(6,3),(7,3),(8,4)],[]⟩),
 (65,⟨2,32,true,[cW,df],.struct [(0,32),(1,3)],[]⟩),
 (69,⟨2,48,true,[cW,cW],.struct [(0,48),(1,44)],[]⟩),
 (72,⟨3,40,true,[df,cW,df],.struct [(0,3),(1,31),(2,3)],[]⟩),
 (82,⟨2,24,true,[lP,df],.struct [(0,9),(1,3)],[2,0]⟩),
 (84,⟨1,24,false,[cW],.slice 264,[]⟩),
 (86,⟨4,56,true,[lP,df,df,cW],.struct [(0,9),(1,3),(2,3),(3,84)],[]⟩),
 (89,⟨1,8,false,[.pointer none],.other,[]⟩),
 (91,⟨10,224,true,[cW,cW,cW,cW,cW,cW,cW,df,cW,cW],.struct [(0,30),(8,31),(9,48)],[]⟩),
 (94,⟨1,8,false,[.nilFunc],.other,[]⟩),
 (96,⟨2,24,true,[lP,.nilFunc],.struct [(0,9),(1,94)],[]⟩),
 (97,⟨18,216,true,[lP,.nilFunc,lP,.nilFunc,lP,.nilFunc,lP,.nilFunc,lP,.nilFunc,lP,.nilFunc,lP,.nilFunc,lP,.nilFunc,lP,.nilFunc],.arr 9 96,[]⟩),
 (98,⟨1,24,false,[cW],.slice 9,[]⟩),
 (99,⟨1,24,false,[cW],.slice 101,[]⟩),
 (101,⟨5,72,true,[df,df,lP,lP,cW],.struct [(0,3),(1,3),(2,9),(3,9),(4,99)],[]⟩),
 (103,⟨4,32,true,[df,df,df,df],.struct [(0,3),(1,3),(2,3),(3,3)],[0,0,0,0]⟩),
 (105,⟨20,232,true,[lP,cW,cW,df,df,df,HG,df,df,df,lP,lP,cW,df,df,df,df,df,df,df],.struct [(0,9),(1,98),(2,98),(3,3),(4,3),(5,3),(6,4),(7,3),(8,101),(13,103),(17,3),(18,3),(19,3)],[]⟩),
 (110,⟨1,24,false,[cW],.slice 65,[]⟩),
 (120,⟨6,88,true,[lP,df,df,lP,lP,cW],.struct [(0,9),(1,101)],[]⟩),
 (122,⟨3,48,true,[lP,HG,cW],.struct [(0,9),(1,4),(2,84)],[]⟩),
 (124,⟨3,48,true,[lP,cW,df],.struct [(0,9),(1,44),(2,3)],[]⟩),
 (127,⟨1,8,false,[.map none],.map 9 4,[]⟩),
 (144,⟨21,440,true,[cW,cW,cW,cW,cW,cW,cW,df,cW,cW,cW,cW,cW,df,df,cW,cW,df,cW,cW,cW],.struct [(0,46),(13,34),(17,37),(19,48),(20,98)],[]⟩),
 (153,⟨1,24,false,[cW],.slice 189,[]⟩),
 (163,⟨1,24,false,[cW],.slice 167,[]⟩),
 (165,⟨1,24,false,[cW],.slice 200,[]⟩),
 (167,⟨3,40,true,[df,df,cW],.struct [(0,3),(1,3),(2,165)],[]⟩),
 (172,⟨1,8,false,[.int .u64 0],.int .u64,[]⟩),
 (184,⟨1,24,false,[cW],.slice 103,[]⟩),
 (189,⟨3,40,true,[df,df,cW],.struct [(0,3),(1,3),(2,31)],[]⟩),
 (200,⟨2,16,true,[df,df],.struct [(0,3),(1,3)],[0,0]⟩),
 (201,⟨1,24,false,[cW],.slice 31,[]⟩),
 (226,⟨6,96,true,[lP,lP,lP,lP,lP,lP],.arr 6 9,[]⟩),
 (233,⟨1,8,false,[.map none],.map 9 3,[]⟩),
 (235,⟨10,208,true,[cW,cW,cW,cW,cW,cW,cW,df,.map none,cW],.struct [(0,30),(8,233),(9,98)],[]⟩),
 (243,⟨10,80,true,[df,df,df,df,df,df,df,df,df,HG],.struct [(0,3),(1,55)],[]⟩),
 (250,⟨1,24,false,[cW],.slice 165,[]⟩),
 (264,⟨2,16,true,[df,df],.struct [(0,3),(1,3)],[0,0]⟩),
 (297,⟨4,32,true,[df,df,df,df],.arr 4 3,[]⟩),
 (307,⟨1,24,false,[cW],.slice 310,[]⟩),
 (310,⟨4,32,true,[df,df,df,df],.struct [(0,264),(2,264)],[]⟩),
 (311,⟨1,24,false,[cW],.slice 32,[]⟩),
 (313,⟨2,48,true,[cW,cW],.struct [(0,22),(1,311)],[]⟩),
 (317,⟨1,24,false,[cW],.slice 4,[]⟩),
 (366,⟨3,24,true,[df,df,df],.struct [(0,3),(1,3),(2,3)],[0,0,0]⟩),
 (368,⟨6,72,true,[lP,df,df,df,df,cW],.struct [(0,9),(1,366),(4,3),(5,28)],[]⟩),
 (370,⟨4,32,true,[df,df,df,df],.struct [(0,3),(1,366)],[]⟩)]
def aop:List (TypeId×CT SI):=[(3,(.int .i64)),(4,.bool),(9,.str),(31,(.sl (.st SI.mL))),(34,(.st SI.Lot)),(51,(.st SI.mL)),(55,(.st SI.i6)),(65,(.st SI.Change)),(69,(.st SI.Phase)),(82,(.st SI.Entry)),(101,(.st SI.Expr)),(103,(.st SI.gd)),(105,(.st SI.Rule)),(165,(.sl (.st SI.span))),(167,(.st SI.strip)),(189,(.st SI.ld)),(200,(.st SI.span)),(310,(.st SI.side))]
def SO:TypeId->Option (CT xx.ι):=lk aop
theorem SM:fu Tryz.prog (UO tab):=aj0 (by kernel_rfl)
theorem mixed:Tryz.prog.follows .mixedOrders=true:=Checked.mixed Tryz.checked
theorem cq{f:FuncId}{fn:Func}{l:List (FuncId×b8 xx)}(hΓ:pL Tryz.prog (xz l))(hfn:Tryz.prog.funcs[f]? =some fn){s:b8 xx}(h:Hn SI)(n:Nat)
 (hq : (fn.body.isSome && !(fn.name == "runtime.NumGoroutine") && decide (s.args.length <= fn.ntmps /\ vN s.args <= 1000 /\ (s.res.filter RT.out).length = vN s.args)) = true := by kernel_rfl) (hg : s.gen = none := by rfl)
 (hr:∀a,run (xz l) (UO tab) SO fn.ntmps n (fn.body.getD .skip) (sG xx s.res) h (B4 s.args a) (aoa (UO tab) fn.results.toList s.res)=s.fn a:=by intro _;kernel_rfl):A6 Tryz.prog f s:=by
 rw[bC,bC]at hq;obtain⟨⟨q1,q2⟩,q3⟩:=hq;have hb:fn.body=some (fn.body.getD .skip):=by
  cases hc:fn.body with
  |none=>rw[hc]at q1;cases q1
  |some c=>rfl
 have hn : (fn.name == "runtime.NumGoroutine") = false := by simpa using q2
 exact yd (pu hfn hb hn) (λ a _ e=>aoc SM mixed hΓ hfn hb hn _ _ (of_decide_eq_true q3) h n ((hr a).trans e)) hg
theorem oA{f:FuncId}{fn:Func}{l:List (FuncId×b8 xx)}(hΓ:pL Tryz.prog (xz l))(hfn:Tryz.prog.funcs[f]? =some fn){g:cM xx}(h:Hn SI)(n:Nat)
 (hq : (fn.body.isSome && !(fn.name == "runtime.NumGoroutine") && decide (g.mj.length <= fn.ntmps) && g.B5) = true)
 (hr:∀v,run (xz l) (UO tab) SO fn.ntmps n (fn.body.getD .skip) (VT (X:=xx) (vR g).vars) h (Mr g v) (RK (UO tab) fn.results.toList g)=g.fn v):A6 Tryz.prog f ⟨[],[.d .bool],λ_=>none,some g⟩:=by
 rw[bC,bC,bC]at hq;obtain⟨⟨⟨q1,q2⟩,q3⟩,q4⟩:=hq;have hb:fn.body=some (fn.body.getD .skip):=by
  cases hc:fn.body with
  |none=>rw[hc]at q1;cases q1
  |some c=>rfl
 have hn : (fn.name == "runtime.NumGoroutine") = false := by simpa using q2
 exact Re (pu hfn hb hn) (anz SM mixed hΓ hfn hb hn g (of_decide_eq_true q3) q4 h n (λ v _ e=>(hr v).trans e))
theorem gcn:pL Tryz.prog (xz ([]:List (FuncId×b8 xx))):=aC
abbrev af:CT SI:=.int .i64
abbrev aU:CT SI:=.st SI.Rule
abbrev aZ:CT SI:=.st SI.Def
abbrev fZ:CT SI:=.st SI.Entry
abbrev aS:CT SI:=.st SI.Table
abbrev bn:CT SI:=.st SI.Zone
abbrev bE:CT SI:=.st SI.Cap
abbrev aP:CT SI:=.st SI.gj
abbrev bB:CT SI:=.st SI.View
abbrev aB:CT SI:=.st SI.mL
abbrev aF:CT SI:=.st SI.i6
abbrev dF:CT SI:=.st SI.ga
abbrev aJ:CT SI:=.st SI.Change
abbrev aH(f:Nat)(s:b8 xx):Prop:=A6 Tryz.prog f s
abbrev iE:=(List gT)×(List cO)×(List fG)×(List cK)×(List jr)×(List iw)×(List dD)×Int×(List ax)×(List ay)
end Go.Proofs
