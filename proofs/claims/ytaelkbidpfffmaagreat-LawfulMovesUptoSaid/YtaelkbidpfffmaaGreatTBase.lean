import Derived.Test.YtaelkbidpfffmaaGreatH1
import Derived.Test.YtaelkbidpfffmaaGreatChecked
namespace Go.Proofs
open Go.Gb Go.RowKit
structure bD where
 op:Int
 n:Int
 s:ByteArray
 key:ByteArray
 args:(List bD)
mutual
def qC:bD->List Tree
 |⟨f0,f1,f2,f3,f4⟩=>[.sc (.int .i64 f0),.sc (.int .i64 f1),.sc (.string f2),.sc (.string f3),.sl (rX f4)]
def rX:List bD->List (List Tree)
 |[]=>[]
 |x::xs=>qC x::rX xs
end
theorem rY:∀l:List bD,rX l=l.map qC
 |[]=>rfl
 |x::xs=>by rw[rX,rY xs];rfl
theorem Vf(x:bD):qC x=[.sc (.int .i64 x.op),.sc (.int .i64 x.n),.sc (.string x.s),.sc (.string x.key),.sl (x.args.map qC)]:=by cases x;simp only[qC,rY]
structure au where
 x0:Int
 y0:Int
 x1:Int
 y1:Int
 deriving DecidableEq,Inhabited
def IZ(x:au):List Tree:=[.sc (.int .i64 x.x0),.sc (.int .i64 x.y0),.sc (.int .i64 x.x1),.sc (.int .i64 x.y1)]
structure dO where
 id:Int
 owner:Int
 area:(List au)
 from_:(List Int)
 deriving DecidableEq,Inhabited
def Kv(x:dO):List Tree:=[.sc (.int .i64 x.id),.sc (.int .i64 x.owner),.sl (x.area.map IZ),.sl (x.from_.map (λ y=>[.sc (.int .i64 y)]))]
structure aA where
 aE:Int
 bp:Int
 az:Int
 bo:Int
 c9:Int
 cR:Int
 use:Int
 units:Int
 extra:Bool
 deriving DecidableEq,Inhabited
def I4(x:aA):List Tree:=[.sc (.int .i64 x.aE),.sc (.int .i64 x.bp),.sc (.int .i64 x.az),.sc (.int .i64 x.bo),.sc (.int .i64 x.c9),.sc (.int .i64 x.cR),.sc (.int .i64 x.use),.sc (.int .i64 x.units),.sc (.bool x.extra)]
structure bC where
 name:ByteArray
 n:Int
 deriving DecidableEq,Inhabited
def GX(x:bC):List Tree:=[.sc (.string x.name),.sc (.int .i64 x.n)]
structure eD where
 cp:(List aA)
 gives:(List bC)
 deriving DecidableEq,Inhabited
def Vg(x:eD):List Tree:=[.sl (x.cp.map I4),.sl (x.gives.map GX)]
structure aJ where
 lot:Int
 phases:(List eD)
 deriving DecidableEq,Inhabited
def afs(x:aJ):List Tree:=[.sc (.int .i64 x.lot),.sl (x.phases.map Vg)]
structure B7 where
 nF:Int
 nt:Int
 nw:Int
 nr:Int
 z0:Int
 z1:Int
 deriving DecidableEq,Inhabited
def ana(x:B7):List Tree:=[.sc (.int .i64 x.nF),.sc (.int .i64 x.nt),.sc (.int .i64 x.nw),.sc (.int .i64 x.nr),.sc (.int .i64 x.z0),.sc (.int .i64 x.z1)]
structure aH where
 from_:Int
 to:Int
 deriving DecidableEq,Inhabited
def ahd(x:aH):List Tree:=[.sc (.int .i64 x.from_),.sc (.int .i64 x.to)]
structure aY where
 x0:Int
 x1:Int
 column:(List aH)
 deriving DecidableEq,Inhabited
def akd(x:aY):List Tree:=[.sc (.int .i64 x.x0),.sc (.int .i64 x.x1),.sl (x.column.map ahd)]
structure bK where
 x:Int
 y:Int
 deriving DecidableEq,Inhabited
def Vh(x:bK):List Tree:=[.sc (.int .i64 x.x),.sc (.int .i64 x.y)]
structure fE where
 name:ByteArray
 load:Int
 limit:Int
 corners:(List bK)
 deriving DecidableEq,Inhabited
def Vi(x:fE):List Tree:=[.sc (.string x.name),.sc (.int .i64 x.load),.sc (.int .i64 x.limit),.sl (x.corners.map Vh)]
structure fI where
 name:ByteArray
 iu:Int
 lj:Int
 km:ByteArray
 ik:ByteArray
 ek:(List bD)
def DX(x:fI):List Tree:=[.sc (.string x.name),.sc (.int .i64 x.iu),.sc (.int .i64 x.lj),.sc (.string x.km),.sc (.string x.ik),.sl (x.ek.map qC)]
structure bS where
 name:ByteArray
 rows:(List bC)
 rh:Int
 deriving DecidableEq,Inhabited
def GY(x:bS):List Tree:=[.sc (.string x.name),.sl (x.rows.map GX),.sc (.int .i64 x.rh)]
structure dh where
 name:ByteArray
 overlay:Bool
 corners:(List bK)
 deriving DecidableEq,Inhabited
def Mg(x:dh):List Tree:=[.sc (.string x.name),.sc (.bool x.overlay),.sl (x.corners.map Vh)]
structure aL where
 name:ByteArray
 zones:(List ByteArray)
 except:(List ByteArray)
 from_:Int
 j7:Int
 xe:Int
 vary:Bool
 kind:Int
 kx:Int
 lR:Int
 lP:ByteArray
 i7:ByteArray
 fX:(List bD)
 ie:Int
 ii:Int
 i8:Int
 i9:Int
 uses:Int
 other:Int
 n:Int
def wU(x:aL):List Tree:=[.sc (.string x.name),.sl (x.zones.map (λ y=>[.sc (.string y)])),.sl (x.except.map (λ y=>[.sc (.string y)])),.sc (.int .i64 x.from_),.sc (.int .i64 x.j7),.sc (.int .i64 x.xe),.sc (.bool x.vary),.sc (.int .i64 x.kind),.sc (.int .i64 x.kx),.sc (.int .i64 x.lR),.sc (.string x.lP),.sc (.string x.i7),.sl (x.fX.map qC),.sc (.int .i64 x.ie),.sc (.int .i64 x.ii),.sc (.int .i64 x.i8),.sc (.int .i64 x.i9),.sc (.int .i64 x.uses),.sc (.int .i64 x.other),.sc (.int .i64 x.n)]
structure bU where
 x:Int
 y:Int
 z:Int
 deriving DecidableEq,Inhabited
def xP(x:bU):List Tree:=[.sc (.int .i64 x.x),.sc (.int .i64 x.y),.sc (.int .i64 x.z)]
structure fD where
 name:ByteArray
 xm:Int
 xl:Int
 xj:Int
 least:Int
 targets:(List bU)
 deriving DecidableEq,Inhabited
def Mh(x:fD):List Tree:=[.sc (.string x.name),.sc (.int .i64 x.xm),.sc (.int .i64 x.xl),.sc (.int .i64 x.xj),.sc (.int .i64 x.least),.sl (x.targets.map xP)]
structure bW where
 defs:(List fI)
 tables:(List bS)
 zones:(List dh)
 rules:(List aL)
 caps:(List fE)
 views:(List fD)
 tI:(List bU)
 hours:Int
def alM(x:bW):List Tree:=[.sl (x.defs.map DX),.sl (x.tables.map GY),.sl (x.zones.map Mg),.sl (x.rules.map wU),.sl (x.caps.map Vi),.sl (x.views.map Mh),.sl (x.tI.map xP),.sc (.int .i64 x.hours)]
structure iH where
 j0:Int
 nb:Int
 kA:Int
 rI:Int
 deriving DecidableEq,Inhabited
def alN(x:iH):List Tree:=[.sc (.int .i64 x.j0),.sc (.int .i64 x.nb),.sc (.int .i64 x.kA),.sc (.int .i64 x.rI)]
structure cK where
 lot:Int
 area:(List au)
 top:Int
 deriving DecidableEq,Inhabited
def GZ(x:cK):List Tree:=[.sc (.int .i64 x.lot),.sl (x.area.map IZ),.sc (.int .i64 x.top)]
structure ow where
 lot:Int
 HK:Int
 HJ:Int
 HI:Int
 deriving DecidableEq,Inhabited
def OC(x:ow):List Tree:=[.sc (.int .i64 x.lot),.sc (.int .i64 x.HK),.sc (.int .i64 x.HJ),.sc (.int .i64 x.HI)]
structure bF where
 lot:Int
 cy:Int
 cw:Int
 cx:Int
 ct:Int
 eE:Int
 eC:Int
 d6:Int
 fh:Int
 fi:Bool
 deriving DecidableEq,Inhabited
def OD(x:bF):List Tree:=[.sc (.int .i64 x.lot),.sc (.int .i64 x.cy),.sc (.int .i64 x.cw),.sc (.int .i64 x.cx),.sc (.int .i64 x.ct),.sc (.int .i64 x.eE),.sc (.int .i64 x.eC),.sc (.int .i64 x.d6),.sc (.int .i64 x.fh),.sc (.bool x.fi)]
structure dm where
 cj:(List fI)
 bx:(List bS)
 bk:(List dh)
 bj:(List aL)
 bu:(List fE)
 cg:(List fD)
 cz:(List bU)
 ci:Int
 land:(List dO)
 b8:(List cK)
 windows:(List ow)
 built:(List bF)
 base:(List bC)
def I5(x:dm):List Tree:=[.sl (x.cj.map DX),.sl (x.bx.map GY),.sl (x.bk.map Mg),.sl (x.bj.map wU),.sl (x.bu.map Vi),.sl (x.cg.map Mh),.sl (x.cz.map xP),.sc (.int .i64 x.ci),.sl (x.land.map Kv),.sl (x.b8.map GZ),.sl (x.windows.map OC),.sl (x.built.map OD),.sl (x.base.map GX)]
structure lZ where
 fj:(List fI)
 ey:(List bS)
 eM:(List dh)
 eR:(List aL)
 fm:(List fE)
 eQ:(List fD)
 ga:(List bU)
 eS:Int
 pp:(List dO)
 j8:(List cK)
 ly:(List ow)
 fW:(List bF)
 pr:(List bC)
 rS:Int
 mf:Int
 kf:(List au)
 ot:(List Int)
 d5:Int
 ij:(List eD)
 cp:(List aA)
 zones:(List ByteArray)
def ake(x:lZ):List Tree:=[.sl (x.fj.map DX),.sl (x.ey.map GY),.sl (x.eM.map Mg),.sl (x.eR.map wU),.sl (x.fm.map Vi),.sl (x.eQ.map Mh),.sl (x.ga.map xP),.sc (.int .i64 x.eS),.sl (x.pp.map Kv),.sl (x.j8.map GZ),.sl (x.ly.map OC),.sl (x.fW.map OD),.sl (x.pr.map GX),.sc (.int .i64 x.rS),.sc (.int .i64 x.mf),.sl (x.kf.map IZ),.sl (x.ot.map (λ y=>[.sc (.int .i64 y)])),.sc (.int .i64 x.d5),.sl (x.ij.map Vg),.sl (x.cp.map I4),.sl (x.zones.map (λ y=>[.sc (.string y)]))]
structure amF where
 cj:(List fI)
 bx:(List bS)
 bk:(List dh)
 bj:(List aL)
 bu:(List fE)
 cg:(List fD)
 cz:(List bU)
 ci:Int
 area:(List au)
 cp:(List aA)
def alO(x:amF):List Tree:=[.sl (x.cj.map DX),.sl (x.bx.map GY),.sl (x.bk.map Mg),.sl (x.bj.map wU),.sl (x.bu.map Vi),.sl (x.cg.map Mh),.sl (x.cz.map xP),.sc (.int .i64 x.ci),.sl (x.area.map IZ),.sl (x.cp.map I4)]
structure I6 where
 a0:ByteArray
 a1:ByteArray
 a2:ByteArray
 a3:ByteArray
 a4:ByteArray
 a5:ByteArray
 deriving DecidableEq,Inhabited
def aif(x:I6):List Tree:=[.sc (.string x.a0),.sc (.string x.a1),.sc (.string x.a2),.sc (.string x.a3),.sc (.string x.a4),.sc (.string x.a5)]
structure oM where
 defs:(List fI)
 uses:(List (List Int))
def akf(x:oM):List Tree:=[.sl (x.defs.map DX),.sl (x.uses.map (λ y=>[.sl (y.map (λ y=>[.sc (.int .i64 y)]))]))]
structure gD where
 z0:Int
 z1:Int
 area:(List au)
 deriving DecidableEq,Inhabited
def alP(x:gD):List Tree:=[.sc (.int .i64 x.z0),.sc (.int .i64 x.z1),.sl (x.area.map IZ)]
structure dI where
 side:Int
 base:Int
 num:Int
 den:Int
 deriving DecidableEq,Inhabited
def akg(x:dI):List Tree:=[.sc (.int .i64 x.side),.sc (.int .i64 x.base),.sc (.int .i64 x.num),.sc (.int .i64 x.den)]
structure Mi where
 a0:Int
 a1:Int
 a2:Int
 a3:Int
 deriving DecidableEq,Inhabited
def aii(x:Mi):List Tree:=[.sc (.int .i64 x.a0),.sc (.int .i64 x.a1),.sc (.int .i64 x.a2),.sc (.int .i64 x.a3)]
inductive SI where
 |Expr
 |lE
 |Lot
 |il
 |Entry
 |Phase
 |gc
 |C3
 |span
 |strip
 |eK
 |Cap
 |Def
 |Table
 |Zone
 |Rule
 |gA
 |View
 |k7
 |side
 |ft
 |Window
 |jz
 |jn
 |j9
 |site
 |mm
 |graph
 |kO
 |gh
 |mn
 deriving DecidableEq
@[reducible] def TT:SI->Type
 |.Expr=>bD
 |.lE=>au
 |.Lot=>dO
 |.il=>aA
 |.Entry=>bC
 |.Phase=>eD
 |.gc=>aJ
 |.C3=>B7
 |.span=>aH
 |.strip=>aY
 |.eK=>bK
 |.Cap=>fE
 |.Def=>fI
 |.Table=>bS
 |.Zone=>dh
 |.Rule=>aL
 |.gA=>bU
 |.View=>fD
 |.k7=>bW
 |.side=>iH
 |.ft=>cK
 |.Window=>ow
 |.jz=>bF
 |.jn=>dm
 |.j9=>lZ
 |.site=>amF
 |.mm=>I6
 |.graph=>oM
 |.kO=>gD
 |.gh=>dI
 |.mn=>Mi
def aoc:(i:SI)->TT i->List Tree
 |.Expr,x=>qC x
 |.lE,x=>IZ x
 |.Lot,x=>Kv x
 |.il,x=>I4 x
 |.Entry,x=>GX x
 |.Phase,x=>Vg x
 |.gc,x=>afs x
 |.C3,x=>ana x
 |.span,x=>ahd x
 |.strip,x=>akd x
 |.eK,x=>Vh x
 |.Cap,x=>Vi x
 |.Def,x=>DX x
 |.Table,x=>GY x
 |.Zone,x=>Mg x
 |.Rule,x=>wU x
 |.gA,x=>xP x
 |.View,x=>Mh x
 |.k7,x=>alM x
 |.side,x=>alN x
 |.ft,x=>GZ x
 |.Window,x=>OC x
 |.jz,x=>OD x
 |.jn,x=>I5 x
 |.j9,x=>ake x
 |.site,x=>alO x
 |.mm,x=>aif x
 |.graph,x=>akf x
 |.kO,x=>alP x
 |.gh,x=>akg x
 |.mn,x=>aii x
def se:SE:=⟨SI,inferInstance,TT,aoc⟩
def S7:SI->List (CT SI)
 |.Expr=>[(.int .i64),(.int .i64),.str,.str,(.sl (.st SI.Expr))]
 |.lE=>[(.int .i64),(.int .i64),(.int .i64),(.int .i64)]
 |.Lot=>[(.int .i64),(.int .i64),(.sl (.st SI.lE)),(.sl (.int .i64))]
 |.il=>[(.int .i64),(.int .i64),(.int .i64),(.int .i64),(.int .i64),(.int .i64),(.int .i64),(.int .i64),.bool]
 |.Entry=>[.str,(.int .i64)]
 |.Phase=>[(.sl (.st SI.il)),(.sl (.st SI.Entry))]
 |.gc=>[(.int .i64),(.sl (.st SI.Phase))]
 |.C3=>[(.int .i64),(.int .i64),(.int .i64),(.int .i64),(.int .i64),(.int .i64)]
 |.span=>[(.int .i64),(.int .i64)]
 |.strip=>[(.int .i64),(.int .i64),(.sl (.st SI.span))]
 |.eK=>[(.int .i64),(.int .i64)]
 |.Cap=>[.str,(.int .i64),(.int .i64),(.sl (.st SI.eK))]
 |.Def=>[.str,(.int .i64),(.int .i64),.str,.str,(.sl (.st SI.Expr))]
 |.Table=>[.str,(.sl (.st SI.Entry)),(.int .i64)]
 |.Zone=>[.str,.bool,(.sl (.st SI.eK))]
 |.Rule=>[.str,(.sl .str),(.sl .str),(.int .i64),(.int .i64),(.int .i64),.bool,(.int .i64),(.int .i64),(.int .i64),.str,.str,(.sl (.st SI.Expr)),(.int .i64),(.int .i64),(.int .i64),(.int .i64),(.int .i64),(.int .i64),(.int .i64)]
 |.gA=>[(.int .i64),(.int .i64),(.int .i64)]
 |.View=>[.str,(.int .i64),(.int .i64),(.int .i64),(.int .i64),(.sl (.st SI.gA))]
 |.k7=>[(.sl (.st SI.Def)),(.sl (.st SI.Table)),(.sl (.st SI.Zone)),(.sl (.st SI.Rule)),(.sl (.st SI.Cap)),(.sl (.st SI.View)),(.sl (.st SI.gA)),(.int .i64)]
 |.side=>[(.int .i64),(.int .i64),(.int .i64),(.int .i64)]
 |.ft=>[(.int .i64),(.sl (.st SI.lE)),(.int .i64)]
 |.Window=>[(.int .i64),(.int .i64),(.int .i64),(.int .i64)]
 |.jz=>[(.int .i64),(.int .i64),(.int .i64),(.int .i64),(.int .i64),(.int .i64),(.int .i64),(.int .i64),(.int .i64),.bool]
 |.jn=>[(.sl (.st SI.Def)),(.sl (.st SI.Table)),(.sl (.st SI.Zone)),(.sl (.st SI.Rule)),(.sl (.st SI.Cap)),(.sl (.st SI.View)),(.sl (.st SI.gA)),(.int .i64),(.sl (.st SI.Lot)),(.sl (.st SI.ft)),(.sl (.st SI.Window)),(.sl (.st SI.jz)),(.sl (.st SI.Entry))]
 |.j9=>[(.sl (.st SI.Def)),(.sl (.st SI.Table)),(.sl (.st SI.Zone)),(.sl (.st SI.Rule)),(.sl (.st SI.Cap)),(.sl (.st SI.View)),(.sl (.st SI.gA)),(.int .i64),(.sl (.st SI.Lot)),(.sl (.st SI.ft)),(.sl (.st SI.Window)),(.sl (.st SI.jz)),(.sl (.st SI.Entry)),(.int .i64),(.int .i64),(.sl (.st SI.lE)),(.sl (.int .i64)),(.int .i64),(.sl (.st SI.Phase)),(.sl (.st SI.il)),(.sl .str)]
 |.site=>[(.sl (.st SI.Def)),(.sl (.st SI.Table)),(.sl (.st SI.Zone)),(.sl (.st SI.Rule)),(.sl (.st SI.Cap)),(.sl (.st SI.View)),(.sl (.st SI.gA)),(.int .i64),(.sl (.st SI.lE)),(.sl (.st SI.il))]
 |.mm=>[.str,.str,.str,.str,.str,.str]
 |.graph=>[(.sl (.st SI.Def)),(.sl (.sl (.int .i64)))]
 |.kO=>[(.int .i64),(.int .i64),(.sl (.st SI.lE))]
 |.gh=>[(.int .i64),(.int .i64),(.int .i64),(.int .i64)]
 |.mn=>[(.int .i64),(.int .i64),(.int .i64),(.int .i64)]
def aod:(i:SI)->TT i->HL se (S7 i)
 |.Expr,x=>(x.op,x.n,x.s,x.key,x.args,())
 |.lE,x=>(x.x0,x.y0,x.x1,x.y1,())
 |.Lot,x=>(x.id,x.owner,x.area,x.from_,())
 |.il,x=>(x.aE,x.bp,x.az,x.bo,x.c9,x.cR,x.use,x.units,x.extra,())
 |.Entry,x=>(x.name,x.n,())
 |.Phase,x=>(x.cp,x.gives,())
 |.gc,x=>(x.lot,x.phases,())
 |.C3,x=>(x.nF,x.nt,x.nw,x.nr,x.z0,x.z1,())
 |.span,x=>(x.from_,x.to,())
 |.strip,x=>(x.x0,x.x1,x.column,())
 |.eK,x=>(x.x,x.y,())
 |.Cap,x=>(x.name,x.load,x.limit,x.corners,())
 |.Def,x=>(x.name,x.iu,x.lj,x.km,x.ik,x.ek,())
 |.Table,x=>(x.name,x.rows,x.rh,())
 |.Zone,x=>(x.name,x.overlay,x.corners,())
 |.Rule,x=>(x.name,x.zones,x.except,x.from_,x.j7,x.xe,x.vary,x.kind,x.kx,x.lR,x.lP,x.i7,x.fX,x.ie,x.ii,x.i8,x.i9,x.uses,x.other,x.n,())
 |.gA,x=>(x.x,x.y,x.z,())
 |.View,x=>(x.name,x.xm,x.xl,x.xj,x.least,x.targets,())
 |.k7,x=>(x.defs,x.tables,x.zones,x.rules,x.caps,x.views,x.tI,x.hours,())
 |.side,x=>(x.j0,x.nb,x.kA,x.rI,())
 |.ft,x=>(x.lot,x.area,x.top,())
 |.Window,x=>(x.lot,x.HK,x.HJ,x.HI,())
 |.jz,x=>(x.lot,x.cy,x.cw,x.cx,x.ct,x.eE,x.eC,x.d6,x.fh,x.fi,())
 |.jn,x=>(x.cj,x.bx,x.bk,x.bj,x.bu,x.cg,x.cz,x.ci,x.land,x.b8,x.windows,x.built,x.base,())
 |.j9,x=>(x.fj,x.ey,x.eM,x.eR,x.fm,x.eQ,x.ga,x.eS,x.pp,x.j8,x.ly,x.fW,x.pr,x.rS,x.mf,x.kf,x.ot,x.d5,x.ij,x.cp,x.zones,())
 |.site,x=>(x.cj,x.bx,x.bk,x.bj,x.bu,x.cg,x.cz,x.ci,x.area,x.cp,())
 |.mm,x=>(x.a0,x.a1,x.a2,x.a3,x.a4,x.a5,())
 |.graph,x=>(x.defs,x.uses,())
 |.kO,x=>(x.z0,x.z1,x.area,())
 |.gh,x=>(x.side,x.base,x.num,x.den,())
 |.mn,x=>(x.a0,x.a1,x.a2,x.a3,())
def anV:(i:SI)->HL se (S7 i)->TT i
 |.Expr,h=>⟨h.1,h.2.1,h.2.2.1,h.2.2.2.1,h.2.2.2.2.1⟩
 |.lE,h=>⟨h.1,h.2.1,h.2.2.1,h.2.2.2.1⟩
 |.Lot,h=>⟨h.1,h.2.1,h.2.2.1,h.2.2.2.1⟩
 |.il,h=>⟨h.1,h.2.1,h.2.2.1,h.2.2.2.1,h.2.2.2.2.1,h.2.2.2.2.2.1,h.2.2.2.2.2.2.1,h.2.2.2.2.2.2.2.1,h.2.2.2.2.2.2.2.2.1⟩
 |.Entry,h=>⟨h.1,h.2.1⟩
 |.Phase,h=>⟨h.1,h.2.1⟩
 |.gc,h=>⟨h.1,h.2.1⟩
 |.C3,h=>⟨h.1,h.2.1,h.2.2.1,h.2.2.2.1,h.2.2.2.2.1,h.2.2.2.2.2.1⟩
 |.span,h=>⟨h.1,h.2.1⟩
 |.strip,h=>⟨h.1,h.2.1,h.2.2.1⟩
 |.eK,h=>⟨h.1,h.2.1⟩
 |.Cap,h=>⟨h.1,h.2.1,h.2.2.1,h.2.2.2.1⟩
 |.Def,h=>⟨h.1,h.2.1,h.2.2.1,h.2.2.2.1,h.2.2.2.2.1,h.2.2.2.2.2.1⟩
 |.Table,h=>⟨h.1,h.2.1,h.2.2.1⟩
 |.Zone,h=>⟨h.1,h.2.1,h.2.2.1⟩
 |.Rule,h=>⟨h.1,h.2.1,h.2.2.1,h.2.2.2.1,h.2.2.2.2.1,h.2.2.2.2.2.1,h.2.2.2.2.2.2.1,h.2.2.2.2.2.2.2.1,h.2.2.2.2.2.2.2.2.1,h.2.2.2.2.2.2.2.2.2.1,h.2.2.2.2.2.2.2.2.2.2.1,h.2.2.2.2.2.2.2.2.2.2.2.1,h.2.2.2.2.2.2.2.2.2.2.2.2.1,h.2.2.2.2.2.2.2.2.2.2.2.2.2.1,h.2.2.2.2.2.2.2.2.2.2.2.2.2.2.1,h.2.2.2.2.2.2.2.2.2.2.2.2.2.2.2.1,h.2.2.2.2.2.2.2.2.2.2.2.2.2.2.2.2.1,h.2.2.2.2.2.2.2.2.2.2.2.2.2.2.2.2.2.1,h.2.2.2.2.2.2.2.2.2.2.2.2.2.2.2.2.2.2.1,h.2.2.2.2.2.2.2.2.2.2.2.2.2.2.2.2.2.2.2.1⟩
 |.gA,h=>⟨h.1,h.2.1,h.2.2.1⟩
 |.View,h=>⟨h.1,h.2.1,h.2.2.1,h.2.2.2.1,h.2.2.2.2.1,h.2.2.2.2.2.1⟩
 |.k7,h=>⟨h.1,h.2.1,h.2.2.1,h.2.2.2.1,h.2.2.2.2.1,h.2.2.2.2.2.1,h.2.2.2.2.2.2.1,h.2.2.2.2.2.2.2.1⟩
 |.side,h=>⟨h.1,h.2.1,h.2.2.1,h.2.2.2.1⟩
 |.ft,h=>⟨h.1,h.2.1,h.2.2.1⟩
 |.Window,h=>⟨h.1,h.2.1,h.2.2.1,h.2.2.2.1⟩
 |.jz,h=>⟨h.1,h.2.1,h.2.2.1,h.2.2.2.1,h.2.2.2.2.1,h.2.2.2.2.2.1,h.2.2.2.2.2.2.1,h.2.2.2.2.2.2.2.1,h.2.2.2.2.2.2.2.2.1,h.2.2.2.2.2.2.2.2.2.1⟩
 |.jn,h=>⟨h.1,h.2.1,h.2.2.1,h.2.2.2.1,h.2.2.2.2.1,h.2.2.2.2.2.1,h.2.2.2.2.2.2.1,h.2.2.2.2.2.2.2.1,h.2.2.2.2.2.2.2.2.1,h.2.2.2.2.2.2.2.2.2.1,h.2.2.2.2.2.2.2.2.2.2.1,h.2.2.2.2.2.2.2.2.2.2.2.1,h.2.2.2.2.2.2.2.2.2.2.2.2.1⟩
 |.j9,h=>⟨h.1,h.2.1,h.2.2.1,h.2.2.2.1,h.2.2.2.2.1,h.2.2.2.2.2.1,h.2.2.2.2.2.2.1,h.2.2.2.2.2.2.2.1,h.2.2.2.2.2.2.2.2.1,h.2.2.2.2.2.2.2.2.2.1,h.2.2.2.2.2.2.2.2.2.2.1,h.2.2.2.2.2.2.2.2.2.2.2.1,h.2.2.2.2.2.2.2.2.2.2.2.2.1,h.2.2.2.2.2.2.2.2.2.2.2.2.2.1,h.2.2.2.2.2.2.2.2.2.2.2.2.2.2.1,h.2.2.2.2.2.2.2.2.2.2.2.2.2.2.2.1,h.2.2.2.2.2.2.2.2.2.2.2.2.2.2.2.2.1,h.2.2.2.2.2.2.2.2.2.2.2.2.2.2.2.2.2.1,h.2.2.2.2.2.2.2.2.2.2.2.2.2.2.2.2.2.2.1,h.2.2.2.2.2.2.2.2.2.2.2.2.2.2.2.2.2.2.2.1,h.2.2.2.2.2.2.2.2.2.2.2.2.2.2.2.2.2.2.2.2.1⟩
 |.site,h=>⟨h.1,h.2.1,h.2.2.1,h.2.2.2.1,h.2.2.2.2.1,h.2.2.2.2.2.1,h.2.2.2.2.2.2.1,h.2.2.2.2.2.2.2.1,h.2.2.2.2.2.2.2.2.1,h.2.2.2.2.2.2.2.2.2.1⟩
 |.mm,h=>⟨h.1,h.2.1,h.2.2.1,h.2.2.2.1,h.2.2.2.2.1,h.2.2.2.2.2.1⟩
 |.graph,h=>⟨h.1,h.2.1⟩
 |.kO,h=>⟨h.1,h.2.1,h.2.2.1⟩
 |.gh,h=>⟨h.1,h.2.1,h.2.2.1,h.2.2.2.1⟩
 |.mn,h=>⟨h.1,h.2.1,h.2.2.1,h.2.2.2.1⟩
def gvS:Nat->Option ((c:CT SI)×CT.T se c):=λ_=>none
def xx:SX:={ toSE:=se,de:=S7,get:=aod,make:=anV,nj:=by intro i x;cases i<;>first|rfl|exact Vf _,gd:=by intro i h;cases i<;>first|rfl|exact Vf _,flat:=by intro i;cases i<;>rfl,gv:=gvS,xd:=λ_=>rfl }
abbrev dc:Value:=.slice none 0 0
abbrev dt:Value:=.int .i64 0
abbrev Fo:Value:=.bool false
abbrev lr:Value:=.string ⟨#[]⟩
def tab:List (TypeId×oT):=[
 (3,⟨1,8,false,[dt],.int .i64,[]⟩),
 (4,⟨1,1,false,[Fo],.bool,[]⟩),
 (9,⟨1,16,false,[lr],.str,[]⟩),
 (22,⟨1,24,false,[dc],.slice 106,[]⟩),
 (23,⟨1,24,false,[dc],.slice 108,[]⟩),
 (24,⟨1,24,false,[dc],.slice 85,[]⟩),
 (25,⟨1,24,false,[dc],.slice 75,[]⟩),
 (26,⟨1,24,false,[dc],.slice 89,[]⟩),
 (27,⟨1,24,false,[dc],.slice 356,[]⟩),
 (28,⟨1,24,false,[dc],.slice 354,[]⟩),
 (30,⟨8,176,true,[dc,dc,dc,dc,dc,dc,dc,dt],.struct [(0,22),(1,23),(2,24),(3,25),(4,26),(5,27),(6,28),(7,3)],[]⟩),
 (31,⟨1,24,false,[dc],.slice 65,[]⟩),
 (32,⟨1,24,false,[dc],.slice 79,[]⟩),
 (33,⟨1,24,false,[dc],.slice 358,[]⟩),
 (34,⟨1,24,false,[dc],.slice 67,[]⟩),
 (35,⟨1,24,false,[dc],.slice 141,[]⟩),
 (37,⟨13,296,true,[dc,dc,dc,dc,dc,dc,dc,dt,dc,dc,dc,dc,dc],.struct [(0,30),(8,31),(9,32),(10,33),(11,34),(12,35)],[]⟩),
 (38,⟨1,24,false,[dc],.slice 47,[]⟩),
 (40,⟨2,32,true,[dt,dc],.struct [(0,3),(1,38)],[]⟩),
 (45,⟨1,24,false,[dc],.slice 61,[]⟩),
 (47,⟨2,48,true,[dc,dc],.struct [(0,45),(1,35)],[]⟩),
 (50,⟨1,24,false,[dc],.slice 9,[]⟩),
 (57,⟨4,32,true,[dt,dt,dt,dt],.struct [(0,3),(1,3),(2,3),(3,3)],[0,0,0,0]⟩),
 (59,⟨6,48,true,[dt,dt,dt,dt,dt,dt],.struct [(0,57),(4,3),(5,3)],[]⟩),
 (61,⟨9,72,true,[dt,dt,dt,dt,dt,dt,dt,dt,Fo],.struct [(0,59),(6,3),(7,3),(8,4)],[]⟩),
 (62,⟨1,24,false,[dc],.slice 57,[]⟩),
 (63,⟨1,24,false,[dc],.slice 3,[]⟩),
 (65,⟨4,64,true,[dt,dt,dc,dc],.struct [(0,3),(1,3),(2,62),(3,63)],[]⟩),
 (67,⟨10,80,true,[dt,dt,dt,dt,dt,dt,dt,dt,dt,Fo],.struct [(0,3),(1,61)],[]⟩),
 (68,⟨1,24,false,[dc],.slice 70,[]⟩),
 (70,⟨5,72,true,[dt,dt,lr,lr,dc],.struct [(0,3),(1,3),(2,9),(3,9),(4,68)],[]⟩),
 (73,⟨4,32,true,[dt,dt,dt,dt],.struct [(0,3),(1,3),(2,3),(3,3)],[0,0,0,0]⟩),
 (75,⟨20,232,true,[lr,dc,dc,dt,dt,dt,Fo,dt,dt,dt,lr,lr,dc,dt,dt,dt,dt,dt,dt,dt],.struct [(0,9),(1,50),(2,50),(3,3),(4,3),(5,3),(6,4),(7,3),(8,70),(13,73),(17,3),(18,3),(19,3)],[]⟩),
 (79,⟨3,40,true,[dt,dc,dt],.struct [(0,3),(1,62),(2,3)],[]⟩),
 (83,⟨1,24,false,[dc],.slice 111,[]⟩),
 (85,⟨3,48,true,[lr,Fo,dc],.struct [(0,9),(1,4),(2,83)],[]⟩),
 (89,⟨4,56,true,[lr,dt,dt,dc],.struct [(0,9),(1,3),(2,3),(3,83)],[]⟩),
 (92,⟨21,440,true,[dc,dc,dc,dc,dc,dc,dc,dt,dc,dc,dc,dc,dc,dt,dt,dc,dc,dt,dc,dc,dc],.struct [(0,37),(13,65),(17,40),(19,45),(20,50)],[]⟩),
 (101,⟨1,24,false,[dc],.slice 131,[]⟩),
 (106,⟨6,88,true,[lr,dt,dt,lr,lr,dc],.struct [(0,9),(1,70)],[]⟩),
 (108,⟨3,48,true,[lr,dc,dt],.struct [(0,9),(1,35),(2,3)],[]⟩),
 (111,⟨2,16,true,[dt,dt],.struct [(0,3),(1,3)],[0,0]⟩),
 (124,⟨1,24,false,[dc],.slice 73,[]⟩),
 (131,⟨3,40,true,[dt,dt,dc],.struct [(0,3),(1,3),(2,62)],[]⟩),
 (141,⟨2,24,true,[lr,dt],.struct [(0,9),(1,3)],[2,0]⟩),
 (148,⟨1,8,false,[.map none],.map 9 3,[]⟩),
 (150,⟨10,208,true,[dc,dc,dc,dc,dc,dc,dc,dt,.map none,dc],.struct [(0,30),(8,148),(9,50)],[]⟩),
 (154,⟨1,8,false,[.pointer none],.other,[]⟩),
 (156,⟨10,224,true,[dc,dc,dc,dc,dc,dc,dc,dt,dc,dc],.struct [(0,30),(8,62),(9,45)],[]⟩),
 (158,⟨1,8,false,[.nilFunc],.other,[]⟩),
 (160,⟨2,24,true,[lr,.nilFunc],.struct [(0,9),(1,158)],[]⟩),
 (161,⟨18,216,true,[lr,.nilFunc,lr,.nilFunc,lr,.nilFunc,lr,.nilFunc,lr,.nilFunc,lr,.nilFunc,lr,.nilFunc,lr,.nilFunc,lr,.nilFunc],.arr 9 160,[]⟩),
 (174,⟨1,8,false,[.map none],.map 9 4,[]⟩),
 (202,⟨1,24,false,[dc],.slice 209,[]⟩),
 (207,⟨1,24,false,[dc],.slice 237,[]⟩),
 (209,⟨3,40,true,[dt,dt,dc],.struct [(0,3),(1,3),(2,207)],[]⟩),
 (226,⟨1,8,false,[.int .u64 0],.int .u64,[]⟩),
 (233,⟨4,32,true,[dt,dt,dt,dt],.arr 4 3,[]⟩),
 (237,⟨2,16,true,[dt,dt],.struct [(0,3),(1,3)],[0,0]⟩),
 (238,⟨1,24,false,[dc],.slice 62,[]⟩),
 (249,⟨1,24,false,[dc],.slice 252,[]⟩),
 (252,⟨4,32,true,[dt,dt,dt,dt],.struct [(0,111),(2,111)],[]⟩),
 (253,⟨1,24,false,[dc],.slice 63,[]⟩),
 (255,⟨2,48,true,[dc,dc],.struct [(0,22),(1,253)],[]⟩),
 (259,⟨1,24,false,[dc],.slice 4,[]⟩),
 (278,⟨6,96,true,[lr,lr,lr,lr,lr,lr],.arr 6 9,[]⟩),
 (282,⟨1,24,false,[dc],.slice 207,[]⟩),
 (354,⟨3,24,true,[dt,dt,dt],.struct [(0,3),(1,3),(2,3)],[0,0,0]⟩),
 (356,⟨6,72,true,[lr,dt,dt,dt,dt,dc],.struct [(0,9),(1,354),(4,3),(5,28)],[]⟩),
 (358,⟨4,32,true,[dt,dt,dt,dt],.struct [(0,3),(1,354)],[]⟩)]
def anW:List (TypeId×CT SI):=[(3,(.int .i64)),(4,.bool),(9,.str),(45,(.sl (.st SI.il))),(47,(.st SI.Phase)),(57,(.st SI.lE)),(61,(.st SI.il)),(62,(.sl (.st SI.lE))),(65,(.st SI.Lot)),(67,(.st SI.jz)),(70,(.st SI.Expr)),(73,(.st SI.gh)),(75,(.st SI.Rule)),(79,(.st SI.ft)),(83,(.sl (.st SI.eK))),(85,(.st SI.Zone)),(89,(.st SI.Cap)),(111,(.st SI.eK)),(131,(.st SI.kO)),(141,(.st SI.Entry)),(207,(.sl (.st SI.span))),(209,(.st SI.strip)),(237,(.st SI.span)),(252,(.st SI.side))]
def amG:TypeId->Option (CT xx.ι):=lk anW
theorem amH:fH Tryz.prog (Ua tab):=ajn (by kernel_rfl)
theorem mixed:Tryz.prog.follows .mixedOrders=true:=Checked.mixed Tryz.checked
theorem cq{f:FuncId}{fn:Func}{l:List (FuncId×co xx)}(hΓ:rK Tryz.prog (vp l))(hfn:Tryz.prog.funcs[f]? =some fn){s:co xx}(h:Hn SI)(n:Nat)
 (hq : (fn.body.isSome && !(fn.name == "runtime.NumGoroutine") && decide (s.args.length <= fn.ntmps /\ vK s.args <= 1000 /\ (s.res.filter RT.out).length = vK s.args)) = true := by kernel_rfl) (hg : s.gen = none := by rfl)
 (hr:∀a,run (vp l) (Ua tab) amG fn.ntmps n (fn.body.getD .skip) (rE xx s.res) h (zc s.args a) (anN (Ua tab) fn.results.toList s.res)=s.fn a:=by intro _;kernel_rfl):C2 Tryz.prog f s:=by
 rw[bq,bq]at hq;obtain⟨⟨q1,q2⟩,q3⟩:=hq;have hb:fn.body=some (fn.body.getD .skip):=by
  cases hc:fn.body with
  |none=>rw[hc]at q1;cases q1
  |some c=>rfl
 have hn : (fn.name == "runtime.NumGoroutine") = false := by simpa using q2
 exact xp (vN hfn hb hn) (λ a _ e=>anO amH mixed hΓ hfn hb hn _ _ (of_decide_eq_true q3) h n ((hr a).trans e)) hg
theorem nq{f:FuncId}{fn:Func}{l:List (FuncId×co xx)}(hΓ:rK Tryz.prog (vp l))(hfn:Tryz.prog.funcs[f]? =some fn){g:cW xx}(h:Hn SI)(n:Nat)
 (hq : (fn.body.isSome && !(fn.name == "runtime.NumGoroutine") && decide (g.pd.length <= fn.ntmps) && g.zd) = true)
 (hr:∀v,run (vp l) (Ua tab) amG fn.ntmps n (fn.body.getD .skip) (VT (X:=xx) (zK g).vars) h (D2 g v) (amC (Ua tab) fn.results.toList g)=g.fn v):C2 Tryz.prog f ⟨[],[.d .bool],λ_=>none,some g⟩:=by
 rw[bq,bq,bq]at hq;obtain⟨⟨⟨q1,q2⟩,q3⟩,q4⟩:=hq;have hb:fn.body=some (fn.body.getD .skip):=by
  cases hc:fn.body with
  |none=>rw[hc]at q1;cases q1
  |some c=>rfl
 have hn : (fn.name == "runtime.NumGoroutine") = false := by simpa using q2
 exact TZ (vN hfn hb hn) (am2 amH mixed hΓ hfn hb hn g (of_decide_eq_true q3) q4 h n (λ v _ e=>(hr v).trans e))
theorem gcn:rK Tryz.prog (vp ([]:List (FuncId×co xx))):=aC
abbrev af:CT SI:=.int .i64
abbrev ay:CT SI:=.st SI.lE
abbrev gQ:CT SI:=.st SI.Lot
abbrev aD:CT SI:=.st SI.il
abbrev dQ:CT SI:=.st SI.Entry
abbrev fu:CT SI:=.st SI.gc
abbrev aX:CT SI:=.st SI.Cap
abbrev aU:CT SI:=.st SI.Def
abbrev aM:CT SI:=.st SI.Table
abbrev aT:CT SI:=.st SI.Zone
abbrev aO:CT SI:=.st SI.Rule
abbrev aK:CT SI:=.st SI.gA
abbrev aW:CT SI:=.st SI.View
abbrev dX:CT SI:=.st SI.ft
abbrev dS:CT SI:=.st SI.jz
abbrev aG(f:Nat)(s:co xx):Prop:=C2 Tryz.prog f s
abbrev gX:=(List fI)×(List bS)×(List dh)×(List aL)×(List fE)×(List fD)×(List bU)×Int×(List au)×(List aA)
end Go.Proofs
