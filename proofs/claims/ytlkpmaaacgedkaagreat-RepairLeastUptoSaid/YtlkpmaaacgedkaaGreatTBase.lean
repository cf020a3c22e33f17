import Derived.Test.YtlkpmaaacgedkaaGreatH1
import Derived.Test.YtlkpmaaacgedkaaGreatChecked
namespace Go.Proofs
open Go.Gb Go.RowKit
structure bR where
 op:Int
 n:Int
 s:ByteArray
 key:ByteArray
 args:(List bR)
mutual
def qV:bR->List Tree
 |⟨f0,f1,f2,f3,f4⟩=>[.sc (.int .i64 f0),.sc (.int .i64 f1),.sc (.string f2),.sc (.string f3),.sl (sS f4)]
def sS:List bR->List (List Tree)
 |[]=>[]
 |x::xs=>qV x::sS xs
end
theorem sU:∀l:List bR,sS l=l.map qV
 |[]=>rfl
 |x::xs=>by rw[sS,sU xs];rfl
theorem VN(x:bR):qV x=[.sc (.int .i64 x.op),.sc (.int .i64 x.n),.sc (.string x.s),.sc (.string x.key),.sl (x.args.map qV)]:=by cases x;simp only[qV,sU]
structure cu where
 name:ByteArray
 zones:(List ByteArray)
 except:(List ByteArray)
 from_:Int
 j8:Int
 zz:Int
 vary:Bool
 kind:Int
 kx:Int
 m5:Int
 mT:ByteArray
 i8:ByteArray
 fL:(List bR)
 gR:Int
 gS:Int
 i9:Int
 jj:Int
 uses:Int
 other:Int
 n:Int
def xh(x:cu):List Tree:=[.sc (.string x.name),.sl (x.zones.map (λ y=>[.sc (.string y)])),.sl (x.except.map (λ y=>[.sc (.string y)])),.sc (.int .i64 x.from_),.sc (.int .i64 x.j8),.sc (.int .i64 x.zz),.sc (.bool x.vary),.sc (.int .i64 x.kind),.sc (.int .i64 x.kx),.sc (.int .i64 x.m5),.sc (.string x.mT),.sc (.string x.i8),.sl (x.fL.map qV),.sc (.int .i64 x.gR),.sc (.int .i64 x.gS),.sc (.int .i64 x.i9),.sc (.int .i64 x.jj),.sc (.int .i64 x.uses),.sc (.int .i64 x.other),.sc (.int .i64 x.n)]
structure gI where
 name:ByteArray
 iu:Int
 lw:Int
 km:ByteArray
 ii:ByteArray
 ek:(List bR)
def Eh(x:gI):List Tree:=[.sc (.string x.name),.sc (.int .i64 x.iu),.sc (.int .i64 x.lw),.sc (.string x.km),.sc (.string x.ii),.sl (x.ek.map qV)]
structure bD where
 name:ByteArray
 n:Int
 deriving DecidableEq,Inhabited
def Ht(x:bD):List Tree:=[.sc (.string x.name),.sc (.int .i64 x.n)]
structure cB where
 name:ByteArray
 rows:(List bD)
 sg:Int
 deriving DecidableEq,Inhabited
def Hu(x:cB):List Tree:=[.sc (.string x.name),.sl (x.rows.map Ht),.sc (.int .i64 x.sg)]
structure dZ where
 x:Int
 y:Int
 deriving DecidableEq,Inhabited
def VO(x:dZ):List Tree:=[.sc (.int .i64 x.x),.sc (.int .i64 x.y)]
structure fD where
 name:ByteArray
 overlay:Bool
 corners:(List dZ)
 deriving DecidableEq,Inhabited
def MC(x:fD):List Tree:=[.sc (.string x.name),.sc (.bool x.overlay),.sl (x.corners.map VO)]
structure jd where
 name:ByteArray
 load:Int
 limit:Int
 corners:(List dZ)
 deriving DecidableEq,Inhabited
def VP(x:jd):List Tree:=[.sc (.string x.name),.sc (.int .i64 x.load),.sc (.int .i64 x.limit),.sl (x.corners.map VO)]
structure dn where
 x:Int
 y:Int
 z:Int
 deriving DecidableEq,Inhabited
def xW(x:dn):List Tree:=[.sc (.int .i64 x.x),.sc (.int .i64 x.y),.sc (.int .i64 x.z)]
structure gU where
 name:ByteArray
 As:Int
 An:Int
 z7:Int
 least:Int
 targets:(List dn)
 deriving DecidableEq,Inhabited
def ME(x:gU):List Tree:=[.sc (.string x.name),.sc (.int .i64 x.As),.sc (.int .i64 x.An),.sc (.int .i64 x.z7),.sc (.int .i64 x.least),.sl (x.targets.map xW)]
structure au where
 x0:Int
 y0:Int
 x1:Int
 y1:Int
 deriving DecidableEq,Inhabited
def Jk(x:au):List Tree:=[.sc (.int .i64 x.x0),.sc (.int .i64 x.y0),.sc (.int .i64 x.x1),.sc (.int .i64 x.y1)]
structure jK where
 id:Int
 owner:Int
 area:(List au)
 from_:(List Int)
 deriving DecidableEq,Inhabited
def KO(x:jK):List Tree:=[.sc (.int .i64 x.id),.sc (.int .i64 x.owner),.sl (x.area.map Jk),.sl (x.from_.map (λ y=>[.sc (.int .i64 y)]))]
structure jw where
 lot:Int
 area:(List au)
 top:Int
 deriving DecidableEq,Inhabited
def Hw(x:jw):List Tree:=[.sc (.int .i64 x.lot),.sl (x.area.map Jk),.sc (.int .i64 x.top)]
structure zX where
 lot:Int
 Mp:Int
 Mo:Int
 Mn:Int
 deriving DecidableEq,Inhabited
def Ph(x:zX):List Tree:=[.sc (.int .i64 x.lot),.sc (.int .i64 x.Mp),.sc (.int .i64 x.Mo),.sc (.int .i64 x.Mn)]
structure iE where
 lot:Int
 eh:Int
 ee:Int
 ef:Int
 ed:Int
 lh:Int
 lf:Int
 eQ:Int
 ma:Int
 mf:Bool
 deriving DecidableEq,Inhabited
def Pj(x:iE):List Tree:=[.sc (.int .i64 x.lot),.sc (.int .i64 x.eh),.sc (.int .i64 x.ee),.sc (.int .i64 x.ef),.sc (.int .i64 x.ed),.sc (.int .i64 x.lh),.sc (.int .i64 x.lf),.sc (.int .i64 x.eQ),.sc (.int .i64 x.ma),.sc (.bool x.mf)]
structure fM where
 ci:(List gI)
 ca:(List cB)
 b9:(List fD)
 bm:(List cu)
 cj:(List jd)
 cg:(List gU)
 cD:(List dn)
 ch:Int
 land:(List jK)
 cp:(List jw)
 windows:(List zX)
 built:(List iE)
 base:(List bD)
def Jl(x:fM):List Tree:=[.sl (x.ci.map Eh),.sl (x.ca.map Hu),.sl (x.b9.map MC),.sl (x.bm.map xh),.sl (x.cj.map VP),.sl (x.cg.map ME),.sl (x.cD.map xW),.sc (.int .i64 x.ch),.sl (x.land.map KO),.sl (x.cp.map Hw),.sl (x.windows.map Ph),.sl (x.built.map Pj),.sl (x.base.map Ht)]
structure aD where
 bj:Int
 bz:Int
 be:Int
 bx:Int
 cx:Int
 cz:Int
 use:Int
 units:Int
 extra:Bool
 deriving DecidableEq,Inhabited
def Jm(x:aD):List Tree:=[.sc (.int .i64 x.bj),.sc (.int .i64 x.bz),.sc (.int .i64 x.be),.sc (.int .i64 x.bx),.sc (.int .i64 x.cx),.sc (.int .i64 x.cz),.sc (.int .i64 x.use),.sc (.int .i64 x.units),.sc (.bool x.extra)]
structure fA where
 az:(List aD)
 gives:(List bD)
 deriving DecidableEq,Inhabited
def VQ(x:fA):List Tree:=[.sl (x.az.map Jm),.sl (x.gives.map Ht)]
structure aG where
 lot:Int
 phases:(List fA)
 deriving DecidableEq,Inhabited
def afM(x:aG):List Tree:=[.sc (.int .i64 x.lot),.sl (x.phases.map VQ)]
structure ym where
 mA:Int
 my:Int
 mz:Int
 mw:Int
 z0:Int
 z1:Int
 deriving DecidableEq,Inhabited
def anq(x:ym):List Tree:=[.sc (.int .i64 x.mA),.sc (.int .i64 x.my),.sc (.int .i64 x.mz),.sc (.int .i64 x.mw),.sc (.int .i64 x.z0),.sc (.int .i64 x.z1)]
structure aK where
 from_:Int
 to:Int
 deriving DecidableEq,Inhabited
def ahA(x:aK):List Tree:=[.sc (.int .i64 x.from_),.sc (.int .i64 x.to)]
structure bP where
 x0:Int
 x1:Int
 column:(List aK)
 deriving DecidableEq,Inhabited
def akH(x:bP):List Tree:=[.sc (.int .i64 x.x0),.sc (.int .i64 x.x1),.sl (x.column.map ahA)]
structure bZ where
 defs:(List gI)
 tables:(List cB)
 zones:(List fD)
 rules:(List cu)
 caps:(List jd)
 views:(List gU)
 vl:(List dn)
 hours:Int
def al2(x:bZ):List Tree:=[.sl (x.defs.map Eh),.sl (x.tables.map Hu),.sl (x.zones.map MC),.sl (x.rules.map xh),.sl (x.caps.map VP),.sl (x.views.map ME),.sl (x.vl.map xW),.sc (.int .i64 x.hours)]
structure jL where
 ly:Int
 pD:Int
 mC:Int
 uu:Int
 deriving DecidableEq,Inhabited
def al3(x:jL):List Tree:=[.sc (.int .i64 x.ly),.sc (.int .i64 x.pD),.sc (.int .i64 x.mC),.sc (.int .i64 x.uu)]
structure mE where
 ff:(List gI)
 ey:(List cB)
 eI:(List fD)
 eK:(List cu)
 fg:(List jd)
 eJ:(List gU)
 fW:(List dn)
 eM:Int
 p5:(List jK)
 j9:(List jw)
 mi:(List zX)
 fy:(List iE)
 p6:(List bD)
 sL:Int
 m8:Int
 ke:(List au)
 pc:(List Int)
 dE:Int
 ie:(List fA)
 az:(List aD)
 zones:(List ByteArray)
def akI(x:mE):List Tree:=[.sl (x.ff.map Eh),.sl (x.ey.map Hu),.sl (x.eI.map MC),.sl (x.eK.map xh),.sl (x.fg.map VP),.sl (x.eJ.map ME),.sl (x.fW.map xW),.sc (.int .i64 x.eM),.sl (x.p5.map KO),.sl (x.j9.map Hw),.sl (x.mi.map Ph),.sl (x.fy.map Pj),.sl (x.p6.map Ht),.sc (.int .i64 x.sL),.sc (.int .i64 x.m8),.sl (x.ke.map Jk),.sl (x.pc.map (λ y=>[.sc (.int .i64 y)])),.sc (.int .i64 x.dE),.sl (x.ie.map VQ),.sl (x.az.map Jm),.sl (x.zones.map (λ y=>[.sc (.string y)]))]
structure amN where
 ci:(List gI)
 ca:(List cB)
 b9:(List fD)
 bm:(List cu)
 cj:(List jd)
 cg:(List gU)
 cD:(List dn)
 ch:Int
 area:(List au)
 az:(List aD)
def al4(x:amN):List Tree:=[.sl (x.ci.map Eh),.sl (x.ca.map Hu),.sl (x.b9.map MC),.sl (x.bm.map xh),.sl (x.cj.map VP),.sl (x.cg.map ME),.sl (x.cD.map xW),.sc (.int .i64 x.ch),.sl (x.area.map Jk),.sl (x.az.map Jm)]
structure Jo where
 a0:ByteArray
 a1:ByteArray
 a2:ByteArray
 a3:ByteArray
 a4:ByteArray
 a5:ByteArray
 deriving DecidableEq,Inhabited
def aiS(x:Jo):List Tree:=[.sc (.string x.a0),.sc (.string x.a1),.sc (.string x.a2),.sc (.string x.a3),.sc (.string x.a4),.sc (.string x.a5)]
structure pE where
 defs:(List gI)
 uses:(List (List Int))
def akJ(x:pE):List Tree:=[.sl (x.defs.map Eh),.sl (x.uses.map (λ y=>[.sl (y.map (λ y=>[.sc (.int .i64 y)]))]))]
structure gJ where
 z0:Int
 z1:Int
 area:(List au)
 deriving DecidableEq,Inhabited
def al5(x:gJ):List Tree:=[.sc (.int .i64 x.z0),.sc (.int .i64 x.z1),.sl (x.area.map Jk)]
structure dW where
 side:Int
 base:Int
 num:Int
 den:Int
 deriving DecidableEq,Inhabited
def akK(x:dW):List Tree:=[.sc (.int .i64 x.side),.sc (.int .i64 x.base),.sc (.int .i64 x.num),.sc (.int .i64 x.den)]
structure MF where
 a0:Int
 a1:Int
 a2:Int
 a3:Int
 deriving DecidableEq,Inhabited
def aiT(x:MF):List Tree:=[.sc (.int .i64 x.a0),.sc (.int .i64 x.a1),.sc (.int .i64 x.a2),.sc (.int .i64 x.a3)]
structure aC where
 floors:(List Int)
 cost:Int
 deriving DecidableEq,Inhabited
def aiU(x:aC):List Tree:=[.sl (x.floors.map (λ y=>[.sc (.int .i64 y)])),.sc (.int .i64 x.cost)]
inductive SI where
 |Expr
 |Rule
 |Def
 |Entry
 |Table
 |iv
 |Zone
 |Cap
 |gi
 |View
 |mL
 |Lot
 |eE
 |Window
 |fS
 |j7
 |i6
 |Phase
 |fY
 |A4
 |span
 |strip
 |ld
 |side
 |ka
 |site
 |nj
 |graph
 |k9
 |gc
 |np
 |Change
 deriving DecidableEq
@[reducible] def TT:SI->Type
 |.Expr=>bR
 |.Rule=>cu
 |.Def=>gI
 |.Entry=>bD
 |.Table=>cB
 |.iv=>dZ
 |.Zone=>fD
 |.Cap=>jd
 |.gi=>dn
 |.View=>gU
 |.mL=>au
 |.Lot=>jK
 |.eE=>jw
 |.Window=>zX
 |.fS=>iE
 |.j7=>fM
 |.i6=>aD
 |.Phase=>fA
 |.fY=>aG
 |.A4=>ym
 |.span=>aK
 |.strip=>bP
 |.ld=>bZ
 |.side=>jL
 |.ka=>mE
 |.site=>amN
 |.nj=>Jo
 |.graph=>pE
 |.k9=>gJ
 |.gc=>dW
 |.np=>MF
 |.Change=>aC
def aom:(i:SI)->TT i->List Tree
 |.Expr,x=>qV x
 |.Rule,x=>xh x
 |.Def,x=>Eh x
 |.Entry,x=>Ht x
 |.Table,x=>Hu x
 |.iv,x=>VO x
 |.Zone,x=>MC x
 |.Cap,x=>VP x
 |.gi,x=>xW x
 |.View,x=>ME x
 |.mL,x=>Jk x
 |.Lot,x=>KO x
 |.eE,x=>Hw x
 |.Window,x=>Ph x
 |.fS,x=>Pj x
 |.j7,x=>Jl x
 |.i6,x=>Jm x
 |.Phase,x=>VQ x
 |.fY,x=>afM x
 |.A4,x=>anq x
 |.span,x=>ahA x
 |.strip,x=>akH x
 |.ld,x=>al2 x
 |.side,x=>al3 x
 |.ka,x=>akI x
 |.site,x=>al4 x
 |.nj,x=>aiS x
 |.graph,x=>akJ x
 |.k9,x=>al5 x
 |.gc,x=>akK x
 |.np,x=>aiT x
 |.Change,x=>aiU x
def se:SE:=⟨SI,inferInstance,TT,aom⟩
def anr:SI->List (CT SI)
 |.Expr=>[(.int .i64),(.int .i64),.str,.str,(.sl (.st SI.Expr))]
 |.Rule=>[.str,(.sl .str),(.sl .str),(.int .i64),(.int .i64),(.int .i64),.bool,(.int .i64),(.int .i64),(.int .i64),.str,.str,(.sl (.st SI.Expr)),(.int .i64),(.int .i64),(.int .i64),(.int .i64),(.int .i64),(.int .i64),(.int .i64)]
 |.Def=>[.str,(.int .i64),(.int .i64),.str,.str,(.sl (.st SI.Expr))]
 |.Entry=>[.str,(.int .i64)]
 |.Table=>[.str,(.sl (.st SI.Entry)),(.int .i64)]
 |.iv=>[(.int .i64),(.int .i64)]
 |.Zone=>[.str,.bool,(.sl (.st SI.iv))]
 |.Cap=>[.str,(.int .i64),(.int .i64),(.sl (.st SI.iv))]
 |.gi=>[(.int .i64),(.int .i64),(.int .i64)]
 |.View=>[.str,(.int .i64),(.int .i64),(.int .i64),(.int .i64),(.sl (.st SI.gi))]
 |.mL=>[(.int .i64),(.int .i64),(.int .i64),(.int .i64)]
 |.Lot=>[(.int .i64),(.int .i64),(.sl (.st SI.mL)),(.sl (.int .i64))]
 |.eE=>[(.int .i64),(.sl (.st SI.mL)),(.int .i64)]
 |.Window=>[(.int .i64),(.int .i64),(.int .i64),(.int .i64)]
 |.fS=>[(.int .i64),(.int .i64),(.int .i64),(.int .i64),(.int .i64),(.int .i64),(.int .i64),(.int .i64),(.int .i64),.bool]
 |.j7=>[(.sl (.st SI.Def)),(.sl (.st SI.Table)),(.sl (.st SI.Zone)),(.sl (.st SI.Rule)),(.sl (.st SI.Cap)),(.sl (.st SI.View)),(.sl (.st SI.gi)),(.int .i64),(.sl (.st SI.Lot)),(.sl (.st SI.eE)),(.sl (.st SI.Window)),(.sl (.st SI.fS)),(.sl (.st SI.Entry))]
 |.i6=>[(.int .i64),(.int .i64),(.int .i64),(.int .i64),(.int .i64),(.int .i64),(.int .i64),(.int .i64),.bool]
 |.Phase=>[(.sl (.st SI.i6)),(.sl (.st SI.Entry))]
 |.fY=>[(.int .i64),(.sl (.st SI.Phase))]
 |.A4=>[(.int .i64),(.int .i64),(.int .i64),(.int .i64),(.int .i64),(.int .i64)]
 |.span=>[(.int .i64),(.int .i64)]
 |.strip=>[(.int .i64),(.int .i64),(.sl (.st SI.span))]
 |.ld=>[(.sl (.st SI.Def)),(.sl (.st SI.Table)),(.sl (.st SI.Zone)),(.sl (.st SI.Rule)),(.sl (.st SI.Cap)),(.sl (.st SI.View)),(.sl (.st SI.gi)),(.int .i64)]
 |.side=>[(.int .i64),(.int .i64),(.int .i64),(.int .i64)]
 |.ka=>[(.sl (.st SI.Def)),(.sl (.st SI.Table)),(.sl (.st SI.Zone)),(.sl (.st SI.Rule)),(.sl (.st SI.Cap)),(.sl (.st SI.View)),(.sl (.st SI.gi)),(.int .i64),(.sl (.st SI.Lot)),(.sl (.st SI.eE)),(.sl (.st SI.Window)),(.sl (.st SI.fS)),(.sl (.st SI.Entry)),(.int .i64),(.int .i64),(.sl (.st SI.mL)),(.sl (.int .i64)),(.int .i64),(.sl (.st SI.Phase)),(.sl (.st SI.i6)),(.sl .str)]
 |.site=>[(.sl (.st SI.Def)),(.sl (.st SI.Table)),(.sl (.st SI.Zone)),(.sl (.st SI.Rule)),(.sl (.st SI.Cap)),(.sl (.st SI.View)),(.sl (.st SI.gi)),(.int .i64),(.sl (.st SI.mL)),(.sl (.st SI.i6))]
 |.nj=>[.str,.str,.str,.str,.str,.str]
 |.graph=>[(.sl (.st SI.Def)),(.sl (.sl (.int .i64)))]
 |.k9=>[(.int .i64),(.int .i64),(.sl (.st SI.mL))]
 |.gc=>[(.int .i64),(.int .i64),(.int .i64),(.int .i64)]
 |.np=>[(.int .i64),(.int .i64),(.int .i64),(.int .i64)]
 |.Change=>[(.sl (.int .i64)),(.int .i64)]
def aon:(i:SI)->TT i->HL se (anr i)
 |.Expr,x=>(x.op,x.n,x.s,x.key,x.args,())
 |.Rule,x=>(x.name,x.zones,x.except,x.from_,x.j8,x.zz,x.vary,x.kind,x.kx,x.m5,x.mT,x.i8,x.fL,x.gR,x.gS,x.i9,x.jj,x.uses,x.other,x.n,())
 |.Def,x=>(x.name,x.iu,x.lw,x.km,x.ii,x.ek,())
 |.Entry,x=>(x.name,x.n,())
 |.Table,x=>(x.name,x.rows,x.sg,())
 |.iv,x=>(x.x,x.y,())
 |.Zone,x=>(x.name,x.overlay,x.corners,())
 |.Cap,x=>(x.name,x.load,x.limit,x.corners,())
 |.gi,x=>(x.x,x.y,x.z,())
 |.View,x=>(x.name,x.As,x.An,x.z7,x.least,x.targets,())
 |.mL,x=>(x.x0,x.y0,x.x1,x.y1,())
 |.Lot,x=>(x.id,x.owner,x.area,x.from_,())
 |.eE,x=>(x.lot,x.area,x.top,())
 |.Window,x=>(x.lot,x.Mp,x.Mo,x.Mn,())
 |.fS,x=>(x.lot,x.eh,x.ee,x.ef,x.ed,x.lh,x.lf,x.eQ,x.ma,x.mf,())
 |.j7,x=>(x.ci,x.ca,x.b9,x.bm,x.cj,x.cg,x.cD,x.ch,x.land,x.cp,x.windows,x.built,x.base,())
 |.i6,x=>(x.bj,x.bz,x.be,x.bx,x.cx,x.cz,x.use,x.units,x.extra,())
 |.Phase,x=>(x.az,x.gives,())
 |.fY,x=>(x.lot,x.phases,())
 |.A4,x=>(x.mA,x.my,x.mz,x.mw,x.z0,x.z1,())
 |.span,x=>(x.from_,x.to,())
 |.strip,x=>(x.x0,x.x1,x.column,())
 |.ld,x=>(x.defs,x.tables,x.zones,x.rules,x.caps,x.views,x.vl,x.hours,())
 |.side,x=>(x.ly,x.pD,x.mC,x.uu,())
 |.ka,x=>(x.ff,x.ey,x.eI,x.eK,x.fg,x.eJ,x.fW,x.eM,x.p5,x.j9,x.mi,x.fy,x.p6,x.sL,x.m8,x.ke,x.pc,x.dE,x.ie,x.az,x.zones,())
 |.site,x=>(x.ci,x.ca,x.b9,x.bm,x.cj,x.cg,x.cD,x.ch,x.area,x.az,())
 |.nj,x=>(x.a0,x.a1,x.a2,x.a3,x.a4,x.a5,())
 |.graph,x=>(x.defs,x.uses,())
 |.k9,x=>(x.z0,x.z1,x.area,())
 |.gc,x=>(x.side,x.base,x.num,x.den,())
 |.np,x=>(x.a0,x.a1,x.a2,x.a3,())
 |.Change,x=>(x.floors,x.cost,())
def an2:(i:SI)->HL se (anr i)->TT i
 |.Expr,h=>⟨h.1,h.2.1,h.2.2.1,h.2.2.2.1,h.2.2.2.2.1⟩
 |.Rule,h=>⟨h.1,h.2.1,h.2.2.1,h.2.2.2.1,h.2.2.2.2.1,h.2.2.2.2.2.1,h.2.2.2.2.2.2.1,h.2.2.2.2.2.2.2.1,h.2.2.2.2.2.2.2.2.1,h.2.2.2.2.2.2.2.2.2.1,h.2.2.2.2.2.2.2.2.2.2.1,h.2.2.2.2.2.2.2.2.2.2.2.1,h.2.2.2.2.2.2.2.2.2.2.2.2.1,h.2.2.2.2.2.2.2.2.2.2.2.2.2.1,h.2.2.2.2.2.2.2.2.2.2.2.2.2.2.1,h.2.2.2.2.2.2.2.2.2.2.2.2.2.2.2.1,h.2.2.2.2.2.2.2.2.2.2.2.2.2.2.2.2.1,h.2.2.2.2.2.2.2.2.2.2.2.2.2.2.2.2.2.1,h.2.2.2.2.2.2.2.2.2.2.2.2.2.2.2.2.2.2.1,h.2.2.2.2.2.2.2.2.2.2.2.2.2.2.2.2.2.2.2.1⟩
 |.Def,h=>⟨h.1,h.2.1,h.2.2.1,h.2.2.2.1,h.2.2.2.2.1,h.2.2.2.2.2.1⟩
 |.Entry,h=>⟨h.1,h.2.1⟩
 |.Table,h=>⟨h.1,h.2.1,h.2.2.1⟩
 |.iv,h=>⟨h.1,h.2.1⟩
 |.Zone,h=>⟨h.1,h.2.1,h.2.2.1⟩
 |.Cap,h=>⟨h.1,h.2.1,h.2.2.1,h.2.2.2.1⟩
 |.gi,h=>⟨h.1,h.2.1,h.2.2.1⟩
 |.View,h=>⟨h.1,h.2.1,h.2.2.1,h.2.2.2.1,h.2.2.2.2.1,h.2.2.2.2.2.1⟩
 |.mL,h=>⟨h.1,h.2.1,h.2.2.1,h.2.2.2.1⟩
 |.Lot,h=>⟨h.1,h.2.1,h.2.2.1,h.2.2.2.1⟩
 |.eE,h=>⟨h.1,h.2.1,h.2.2.1⟩
 |.Window,h=>⟨h.1,h.2.1,h.2.2.1,h.2.2.2.1⟩
 |.fS,h=>⟨h.1,h.2.1,h.2.2.1,h.2.2.2.1,h.2.2.2.2.1,h.2.2.2.2.2.1,h.2.2.2.2.2.2.1,h.2.2.2.2.2.2.2.1,h.2.2.2.2.2.2.2.2.1,h.2.2.2.2.2.2.2.2.2.1⟩
 |.j7,h=>⟨h.1,h.2.1,h.2.2.1,h.2.2.2.1,h.2.2.2.2.1,h.2.2.2.2.2.1,h.2.2.2.2.2.2.1,h.2.2.2.2.2.2.2.1,h.2.2.2.2.2.2.2.2.1,h.2.2.2.2.2.2.2.2.2.1,h.2.2.2.2.2.2.2.2.2.2.1,h.2.2.2.2.2.2.2.2.2.2.2.1,h.2.2.2.2.2.2.2.2.2.2.2.2.1⟩
 |.i6,h=>⟨h.1,h.2.1,h.2.2.1,h.2.2.2.1,h.2.2.2.2.1,h.2.2.2.2.2.1,h.2.2.2.2.2.2.1,h.2.2.2.2.2.2.2.1,h.2.2.2.2.2.2.2.2.1⟩
 |.Phase,h=>⟨h.1,h.2.1⟩
 |.fY,h=>⟨h.1,h.2.1⟩
 |.A4,h=>⟨h.1,h.2.1,h.2.2.1,h.2.2.2.1,h.2.2.2.2.1,h.2.2.2.2.2.1⟩
 |.span,h=>⟨h.1,h.2.1⟩
 |.strip,h=>⟨h.1,h.2.1,h.2.2.1⟩
 |.ld,h=>⟨h.1,h.2.1,h.2.2.1,h.2.2.2.1,h.2.2.2.2.1,h.2.2.2.2.2.1,h.2.2.2.2.2.2.1,h.2.2.2.2.2.2.2.1⟩
 |.side,h=>⟨h.1,h.2.1,h.2.2.1,h.2.2.2.1⟩
 |.ka,h=>⟨h.1,h.2.1,h.2.2.1,h.2.2.2.1,h.2.2.2.2.1,h.2.2.2.2.2.1,h.2.2.2.2.2.2.1,h.2.2.2.2.2.2.2.1,h.2.2.2.2.2.2.2.2.1,h.2.2.2.2.2.2.2.2.2.1,h.2.2.2.2.2.2.2.2.2.2.1,h.2.2.2.2.2.2.2.2.2.2.2.1,h.2.2.2.2.2.2.2.2.2.2.2.2.1,h.2.2.2.2.2.2.2.2.2.2.2.2.2.1,h.2.2.2.2.2.2.2.2.2.2.2.2.2.2.1,h.2.2.2.2.2.2.2.2.2.2.2.2.2.2.2.1,h.2.2.2.2.2.2.2.2.2.2.2.2.2.2.2.2.1,h.2.2.2.2.2.2.2.2.2.2.2.2.2.2.2.2.2.1,h.2.2.2.2.2.2.2.2.2.2.2.2.2.2.2.2.2.2.1,h.2.2.2.2.2.2.2.2.2.2.2.2.2.2.2.2.2.2.2.1,h.2.2.2.2.2.2.2.2.2.2.2.2.2.2.2.2.2.2.2.2.1⟩
 |.site,h=>⟨h.1,h.2.1,h.2.2.1,h.2.2.2.1,h.2.2.2.2.1,h.2.2.2.2.2.1,h.2.2.2.2.2.2.1,h.2.2.2.2.2.2.2.1,h.2.2.2.2.2.2.2.2.1,h.2.2.2.2.2.2.2.2.2.1⟩
 |.nj,h=>⟨h.1,h.2.1,h.2.2.1,h.2.2.2.1,h.2.2.2.2.1,h.2.2.2.2.2.1⟩
 |.graph,h=>⟨h.1,h.2.1⟩
 |.k9,h=>⟨h.1,h.2.1,h.2.2.1⟩
 |.gc,h=>⟨h.1,h.2.1,h.2.2.1,h.2.2.2.1⟩
 |.np,h=>⟨h.1,h.2.1,h.2.2.1,h.2.2.2.1⟩
 |.Change,h=>⟨h.1,h.2.1⟩
def gvS:Nat->Option ((c:CT SI)×CT.T se c):=λ_=>none
def xx:SX:={ toSE:=se,cV:=anr,get:=aon,make:=an2,oE:=by intro i x;cases i<;>first|rfl|exact VN _,ga:=by intro i h;cases i<;>first|rfl|exact VN _,flat:=by intro i;cases i<;>rfl,gv:=gvS,zv:=λ_=>rfl }
abbrev cW:Value:=.slice none 0 0
abbrev df:Value:=.int .i64 0
abbrev HF:Value:=.bool false
abbrev lP:Value:=.string ⟨#[]⟩
def tab:List (TypeId×pw):=[
 (3,⟨1,8,false,[df],.int .i64,[]⟩),
 (4,⟨1,1,false,[HF],.bool,[]⟩),
 (9,⟨1,16,false,[lP],.str,[]⟩),
 (22,⟨1,24,false,[cW],.slice 113,[]⟩),
 (23,⟨1,24,false,[cW],.slice 120,[]⟩),
 (24,⟨1,24,false,[cW],.slice 116,[]⟩),
 (25,⟨1,24,false,[cW],.slice 98,[]⟩),
 (26,⟨1,24,false,[cW],.slice 118,[]⟩),
 (27,⟨1,24,false,[cW],.slice 368,[]⟩),
 (28,⟨1,24,false,[cW],.slice 366,[]⟩),
 (30,⟨8,176,true,[cW,cW,cW,cW,cW,cW,cW,df],.struct [(0,22),(1,23),(2,24),(3,25),(4,26),(5,27),(6,28),(7,3)],[]⟩),
 (31,⟨1,24,false,[cW],.slice 72,[]⟩),
 (32,⟨1,24,false,[cW],.slice 74,[]⟩),
 (33,⟨1,24,false,[cW],.slice 370,[]⟩),
 (34,⟨1,24,false,[cW],.slice 180,[]⟩),
 (35,⟨1,24,false,[cW],.slice 108,[]⟩),
 (37,⟨13,296,true,[cW,cW,cW,cW,cW,cW,cW,df,cW,cW,cW,cW,cW],.struct [(0,30),(8,31),(9,32),(10,33),(11,34),(12,35)],[]⟩),
 (38,⟨1,24,false,[cW],.slice 62,[]⟩),
 (40,⟨2,32,true,[df,cW],.struct [(0,3),(1,38)],[]⟩),
 (43,⟨1,24,false,[cW],.slice 3,[]⟩),
 (45,⟨2,32,true,[cW,df],.struct [(0,43),(1,3)],[]⟩),
 (49,⟨1,24,false,[cW],.slice 9,[]⟩),
 (52,⟨1,24,false,[cW],.slice 68,[]⟩),
 (62,⟨2,48,true,[cW,cW],.struct [(0,52),(1,35)],[]⟩),
 (64,⟨4,32,true,[df,df,df,df],.struct [(0,3),(1,3),(2,3),(3,3)],[0,0,0,0]⟩),
 (66,⟨6,48,true,[df,df,df,df,df,df],.struct [(0,64),(4,3),(5,3)],[]⟩),
 (68,⟨9,72,true,[df,df,df,df,df,df,df,df,HF],.struct [(0,66),(6,3),(7,3),(8,4)],[]⟩),
 (70,⟨1,24,false,[cW],.slice 64,[]⟩),
 (72,⟨4,64,true,[df,df,cW,cW],.struct [(0,3),(1,3),(2,70),(3,43)],[]⟩),
 (74,⟨3,40,true,[df,cW,df],.struct [(0,3),(1,70),(2,3)],[]⟩),
 (78,⟨1,24,false,[cW],.slice 45,[]⟩),
 (86,⟨21,440,true,[cW,cW,cW,cW,cW,cW,cW,df,cW,cW,cW,cW,cW,df,df,cW,cW,df,cW,cW,cW],.struct [(0,37),(13,72),(17,40),(19,52),(20,49)],[]⟩),
 (92,⟨1,24,false,[cW],.slice 94,[]⟩),
 (94,⟨5,72,true,[df,df,lP,lP,cW],.struct [(0,3),(1,3),(2,9),(3,9),(4,92)],[]⟩),
 (96,⟨4,32,true,[df,df,df,df],.struct [(0,3),(1,3),(2,3),(3,3)],[0,0,0,0]⟩),
 (98,⟨20,232,true,[lP,cW,cW,df,df,df,HF,df,df,df,lP,lP,cW,df,df,df,df,df,df,df],.struct [(0,9),(1,49),(2,49),(3,3),(4,3),(5,3),(6,4),(7,3),(8,94),(13,96),(17,3),(18,3),(19,3)],[]⟩),
 (102,⟨1,24,false,[cW],.slice 143,[]⟩),
 (108,⟨2,24,true,[lP,df],.struct [(0,9),(1,3)],[2,0]⟩),
 (113,⟨6,88,true,[lP,df,df,lP,lP,cW],.struct [(0,9),(1,94)],[]⟩),
 (114,⟨1,24,false,[cW],.slice 197,[]⟩),
 (116,⟨3,48,true,[lP,HF,cW],.struct [(0,9),(1,4),(2,114)],[]⟩),
 (118,⟨4,56,true,[lP,df,df,cW],.struct [(0,9),(1,3),(2,3),(3,114)],[]⟩),
 (120,⟨3,48,true,[lP,cW,df],.struct [(0,9),(1,35),(2,3)],[]⟩),
 (136,⟨1,24,false,[cW],.slice 96,[]⟩),
 (143,⟨3,40,true,[df,df,cW],.struct [(0,3),(1,3),(2,70)],[]⟩),
 (147,⟨1,8,false,[.map none],.map 9 4,[]⟩),
 (162,⟨1,8,false,[.map none],.map 9 3,[]⟩),
 (164,⟨10,208,true,[cW,cW,cW,cW,cW,cW,cW,df,.map none,cW],.struct [(0,30),(8,162),(9,49)],[]⟩),
 (168,⟨1,8,false,[.pointer none],.other,[]⟩),
 (170,⟨10,224,true,[cW,cW,cW,cW,cW,cW,cW,df,cW,cW],.struct [(0,30),(8,70),(9,52)],[]⟩),
 (172,⟨1,8,false,[.nilFunc],.other,[]⟩),
 (174,⟨2,24,true,[lP,.nilFunc],.struct [(0,9),(1,172)],[]⟩),
 (175,⟨18,216,true,[lP,.nilFunc,lP,.nilFunc,lP,.nilFunc,lP,.nilFunc,lP,.nilFunc,lP,.nilFunc,lP,.nilFunc,lP,.nilFunc,lP,.nilFunc],.arr 9 174,[]⟩),
 (180,⟨10,80,true,[df,df,df,df,df,df,df,df,df,HF],.struct [(0,3),(1,68)],[]⟩),
 (191,⟨1,8,false,[.int .u64 0],.int .u64,[]⟩),
 (197,⟨2,16,true,[df,df],.struct [(0,3),(1,3)],[0,0]⟩),
 (219,⟨1,24,false,[cW],.slice 227,[]⟩),
 (225,⟨1,24,false,[cW],.slice 252,[]⟩),
 (227,⟨3,40,true,[df,df,cW],.struct [(0,3),(1,3),(2,225)],[]⟩),
 (248,⟨4,32,true,[df,df,df,df],.arr 4 3,[]⟩),
 (252,⟨2,16,true,[df,df],.struct [(0,3),(1,3)],[0,0]⟩),
 (253,⟨1,24,false,[cW],.slice 70,[]⟩),
 (261,⟨1,24,false,[cW],.slice 264,[]⟩),
 (264,⟨4,32,true,[df,df,df,df],.struct [(0,197),(2,197)],[]⟩),
 (265,⟨1,24,false,[cW],.slice 43,[]⟩),
 (267,⟨2,48,true,[cW,cW],.struct [(0,22),(1,265)],[]⟩),
 (271,⟨1,24,false,[cW],.slice 4,[]⟩),
 (290,⟨6,96,true,[lP,lP,lP,lP,lP,lP],.arr 6 9,[]⟩),
 (296,⟨1,24,false,[cW],.slice 225,[]⟩),
 (366,⟨3,24,true,[df,df,df],.struct [(0,3),(1,3),(2,3)],[0,0,0]⟩),
 (368,⟨6,72,true,[lP,df,df,df,df,cW],.struct [(0,9),(1,366),(4,3),(5,28)],[]⟩),
 (370,⟨4,32,true,[df,df,df,df],.struct [(0,3),(1,366)],[]⟩)]
def an3:List (TypeId×CT SI):=[(3,(.int .i64)),(4,.bool),(9,.str),(45,(.st SI.Change)),(62,(.st SI.Phase)),(64,(.st SI.mL)),(68,(.st SI.i6)),(70,(.sl (.st SI.mL))),(72,(.st SI.Lot)),(94,(.st SI.Expr)),(96,(.st SI.gc)),(98,(.st SI.Rule)),(108,(.st SI.Entry)),(143,(.st SI.k9)),(225,(.sl (.st SI.span))),(227,(.st SI.strip)),(252,(.st SI.span)),(264,(.st SI.side))]
def Sx:TypeId->Option (CT xx.ι):=lk an3
theorem Su:eY Tryz.prog (UH tab):=ajP (by kernel_rfl)
theorem mixed:Tryz.prog.follows .mixedOrders=true:=Checked.mixed Tryz.checked
theorem cq{f:FuncId}{fn:Func}{l:List (FuncId×b7 xx)}(hΓ:pH Tryz.prog (xv l))(hfn:Tryz.prog.funcs[f]? =some fn){s:b7 xx}(h:Hn SI)(n:Nat)
 (hq : (fn.body.isSome && !(fn.name == "runtime.NumGoroutine") && decide (s.args.length <= fn.ntmps /\ vQ s.args <= 1000 /\ (s.res.filter RT.out).length = vQ s.args)) = true := by kernel_rfl) (hg : s.gen = none := by rfl)
 (hr:∀a,run (xv l) (UH tab) Sx fn.ntmps n (fn.body.getD .skip) (sD xx s.res) h (BW s.args a) (anP (UH tab) fn.results.toList s.res)=s.fn a:=by intro _;kernel_rfl):A3 Tryz.prog f s:=by
 rw[bC,bC]at hq;obtain⟨⟨q1,q2⟩,q3⟩:=hq;have hb:fn.body=some (fn.body.getD .skip):=by
  cases hc:fn.body with
  |none=>rw[hc]at q1;cases q1
  |some c=>rfl
 have hn : (fn.name == "runtime.NumGoroutine") = false := by simpa using q2
 exact xF (pz hfn hb hn) (λ a _ e=>anQ Su mixed hΓ hfn hb hn _ _ (of_decide_eq_true q3) h n ((hr a).trans e)) hg
theorem oA{f:FuncId}{fn:Func}{l:List (FuncId×b7 xx)}(hΓ:pH Tryz.prog (xv l))(hfn:Tryz.prog.funcs[f]? =some fn){g:cM xx}(h:Hn SI)(n:Nat)
 (hq : (fn.body.isSome && !(fn.name == "runtime.NumGoroutine") && decide (g.mj.length <= fn.ntmps) && g.BY) = true)
 (hr:∀v,run (xv l) (UH tab) Sx fn.ntmps n (fn.body.getD .skip) (VT (X:=xx) (vU g).vars) h (Mk g v) (Rr (UH tab) fn.results.toList g)=g.fn v):A3 Tryz.prog f ⟨[],[.d .bool],λ_=>none,some g⟩:=by
 rw[bC,bC,bC]at hq;obtain⟨⟨⟨q1,q2⟩,q3⟩,q4⟩:=hq;have hb:fn.body=some (fn.body.getD .skip):=by
  cases hc:fn.body with
  |none=>rw[hc]at q1;cases q1
  |some c=>rfl
 have hn : (fn.name == "runtime.NumGoroutine") = false := by simpa using q2
 exact QQ (pz hfn hb hn) (am9 Su mixed hΓ hfn hb hn g (of_decide_eq_true q3) q4 h n (λ v _ e=>(hr v).trans e))
theorem gcn:pH Tryz.prog (xv ([]:List (FuncId×b7 xx))):=aB
abbrev af:CT SI:=.int .i64
abbrev aV:CT SI:=.st SI.Rule
abbrev aZ:CT SI:=.st SI.Def
abbrev gF:CT SI:=.st SI.Entry
abbrev aS:CT SI:=.st SI.Table
abbrev bg:CT SI:=.st SI.Zone
abbrev bB:CT SI:=.st SI.Cap
abbrev aP:CT SI:=.st SI.gi
abbrev bq:CT SI:=.st SI.View
abbrev aA:CT SI:=.st SI.mL
abbrev aF:CT SI:=.st SI.i6
abbrev cK:CT SI:=.st SI.fY
abbrev aJ:CT SI:=.st SI.Change
abbrev aH(f:Nat)(s:b7 xx):Prop:=A3 Tryz.prog f s
abbrev ig:=(List gI)×(List cB)×(List fD)×(List cu)×(List jd)×(List gU)×(List dn)×Int×(List au)×(List aD)
end Go.Proofs
