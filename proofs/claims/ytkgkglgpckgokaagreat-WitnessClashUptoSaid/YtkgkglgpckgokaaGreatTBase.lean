import Derived.Test.YtkgkglgpckgokaaGreatH1
import Derived.Test.YtkgkglgpckgokaaGreatChecked
namespace Go.Proofs
open Go.Gb Go.RowKit
structure bZ where
 op:Int
 n:Int
 s:ByteArray
 key:ByteArray
 args:(List bZ)
mutual
def qM:bZ->List Tree
 |⟨f0,f1,f2,f3,f4⟩=>[.sc (.int .i64 f0),.sc (.int .i64 f1),.sc (.string f2),.sc (.string f3),.sl (sP f4)]
def sP:List bZ->List (List Tree)
 |[]=>[]
 |x::xs=>qM x::sP xs
end
theorem sQ:∀l:List bZ,sP l=l.map qM
 |[]=>rfl
 |x::xs=>by rw[sP,sQ xs];rfl
theorem WG(x:bZ):qM x=[.sc (.int .i64 x.op),.sc (.int .i64 x.n),.sc (.string x.s),.sc (.string x.key),.sl (x.args.map qM)]:=by cases x;simp only[qM,sQ]
structure fB where
 name:ByteArray
 io:Int
 ly:Int
 kw:ByteArray
 ia:ByteArray
 en:(List bZ)
def Ea(x:fB):List Tree:=[.sc (.string x.name),.sc (.int .i64 x.io),.sc (.int .i64 x.ly),.sc (.string x.kw),.sc (.string x.ia),.sl (x.en.map qM)]
structure bR where
 name:ByteArray
 n:Int
 deriving DecidableEq,Inhabited
def Hu(x:bR):List Tree:=[.sc (.string x.name),.sc (.int .i64 x.n)]
structure cu where
 name:ByteArray
 rows:(List bR)
 sg:Int
 deriving DecidableEq,Inhabited
def Hw(x:cu):List Tree:=[.sc (.string x.name),.sl (x.rows.map Hu),.sc (.int .i64 x.sg)]
structure dQ where
 x:Int
 y:Int
 deriving DecidableEq,Inhabited
def WH(x:dQ):List Tree:=[.sc (.int .i64 x.x),.sc (.int .i64 x.y)]
structure dM where
 name:ByteArray
 overlay:Bool
 corners:(List dQ)
 deriving DecidableEq,Inhabited
def Ng(x:dM):List Tree:=[.sc (.string x.name),.sc (.bool x.overlay),.sl (x.corners.map WH)]
structure bV where
 name:ByteArray
 zones:(List ByteArray)
 except:(List ByteArray)
 from_:Int
 j9:Int
 yz:Int
 vary:Bool
 kind:Int
 kO:Int
 mn:Int
 mm:ByteArray
 i9:ByteArray
 fW:(List bZ)
 gR:Int
 gS:Int
 jj:Int
 jn:Int
 uses:Int
 other:Int
 n:Int
def sS(x:bV):List Tree:=[.sc (.string x.name),.sl (x.zones.map (λ y=>[.sc (.string y)])),.sl (x.except.map (λ y=>[.sc (.string y)])),.sc (.int .i64 x.from_),.sc (.int .i64 x.j9),.sc (.int .i64 x.yz),.sc (.bool x.vary),.sc (.int .i64 x.kind),.sc (.int .i64 x.kO),.sc (.int .i64 x.mn),.sc (.string x.mm),.sc (.string x.i9),.sl (x.fW.map qM),.sc (.int .i64 x.gR),.sc (.int .i64 x.gS),.sc (.int .i64 x.jj),.sc (.int .i64 x.jn),.sc (.int .i64 x.uses),.sc (.int .i64 x.other),.sc (.int .i64 x.n)]
structure fZ where
 name:ByteArray
 load:Int
 limit:Int
 corners:(List dQ)
 deriving DecidableEq,Inhabited
def WI(x:fZ):List Tree:=[.sc (.string x.name),.sc (.int .i64 x.load),.sc (.int .i64 x.limit),.sl (x.corners.map WH)]
structure bT where
 x:Int
 y:Int
 z:Int
 deriving DecidableEq,Inhabited
def yh(x:bT):List Tree:=[.sc (.int .i64 x.x),.sc (.int .i64 x.y),.sc (.int .i64 x.z)]
structure eU where
 name:ByteArray
 zd:Int
 zc:Int
 y6:Int
 least:Int
 targets:(List bT)
 deriving DecidableEq,Inhabited
def Nh(x:eU):List Tree:=[.sc (.string x.name),.sc (.int .i64 x.zd),.sc (.int .i64 x.zc),.sc (.int .i64 x.y6),.sc (.int .i64 x.least),.sl (x.targets.map yh)]
structure bB where
 defs:(List fB)
 tables:(List cu)
 zones:(List dM)
 rules:(List bV)
 caps:(List fZ)
 views:(List eU)
 sm:(List bT)
 hours:Int
def Jo(x:bB):List Tree:=[.sl (x.defs.map Ea),.sl (x.tables.map Hw),.sl (x.zones.map Ng),.sl (x.rules.map sS),.sl (x.caps.map WI),.sl (x.views.map Nh),.sl (x.sm.map yh),.sc (.int .i64 x.hours)]
structure ax where
 x0:Int
 y0:Int
 x1:Int
 y1:Int
 deriving DecidableEq,Inhabited
def Jp(x:ax):List Tree:=[.sc (.int .i64 x.x0),.sc (.int .i64 x.y0),.sc (.int .i64 x.x1),.sc (.int .i64 x.y1)]
structure aO where
 from_:Int
 to:Int
 deriving DecidableEq,Inhabited
def ahZ(x:aO):List Tree:=[.sc (.int .i64 x.from_),.sc (.int .i64 x.to)]
structure bU where
 x0:Int
 x1:Int
 column:(List aO)
 deriving DecidableEq,Inhabited
def alb(x:bU):List Tree:=[.sc (.int .i64 x.x0),.sc (.int .i64 x.x1),.sl (x.column.map ahZ)]
structure bS where
 id:Int
 owner:Int
 area:(List ax)
 from_:(List Int)
 deriving DecidableEq,Inhabited
def KV(x:bS):List Tree:=[.sc (.int .i64 x.id),.sc (.int .i64 x.owner),.sl (x.area.map Jp),.sl (x.from_.map (λ y=>[.sc (.int .i64 y)]))]
structure aR where
 lot:Int
 use:Int
 floors:Int
 ev:Int
 deriving DecidableEq,Inhabited
def alc(x:aR):List Tree:=[.sc (.int .i64 x.lot),.sc (.int .i64 x.use),.sc (.int .i64 x.floors),.sc (.int .i64 x.ev)]
structure aH where
 bu:Int
 ca:Int
 br:Int
 b9:Int
 ep:Int
 eb:Int
 use:Int
 units:Int
 extra:Bool
 deriving DecidableEq,Inhabited
def Jq(x:aH):List Tree:=[.sc (.int .i64 x.bu),.sc (.int .i64 x.ca),.sc (.int .i64 x.br),.sc (.int .i64 x.b9),.sc (.int .i64 x.ep),.sc (.int .i64 x.eb),.sc (.int .i64 x.use),.sc (.int .i64 x.units),.sc (.bool x.extra)]
structure ru where
 cy:(List aH)
 gives:(List bR)
 deriving DecidableEq,Inhabited
def Ni(x:ru):List Tree:=[.sl (x.cy.map Jq),.sl (x.gives.map Hu)]
structure bn where
 lot:Int
 phases:(List ru)
 deriving DecidableEq,Inhabited
def agc(x:bn):List Tree:=[.sc (.int .i64 x.lot),.sl (x.phases.map Ni)]
structure je where
 lot:Int
 area:(List ax)
 top:Int
 deriving DecidableEq,Inhabited
def Hy(x:je):List Tree:=[.sc (.int .i64 x.lot),.sl (x.area.map Jp),.sc (.int .i64 x.top)]
structure Eb where
 lot:Int
 Ix:Int
 Iv:Int
 It:Int
 deriving DecidableEq,Inhabited
def PS(x:Eb):List Tree:=[.sc (.int .i64 x.lot),.sc (.int .i64 x.Ix),.sc (.int .i64 x.Iv),.sc (.int .i64 x.It)]
structure iB where
 lot:Int
 ef:Int
 ed:Int
 ee:Int
 ec:Int
 lf:Int
 ld:Int
 ff:Int
 lO:Int
 lP:Bool
 deriving DecidableEq,Inhabited
def PU(x:iB):List Tree:=[.sc (.int .i64 x.lot),.sc (.int .i64 x.ef),.sc (.int .i64 x.ed),.sc (.int .i64 x.ee),.sc (.int .i64 x.ec),.sc (.int .i64 x.lf),.sc (.int .i64 x.ld),.sc (.int .i64 x.ff),.sc (.int .i64 x.lO),.sc (.bool x.lP)]
structure bW where
 ci:(List fB)
 b8:(List cu)
 b7:(List dM)
 bj:(List bV)
 ct:(List fZ)
 cj:(List eU)
 cD:(List bT)
 cm:Int
 land:(List bS)
 bz:(List je)
 windows:(List Eb)
 built:(List iB)
 base:(List bR)
def Jr(x:bW):List Tree:=[.sl (x.ci.map Ea),.sl (x.b8.map Hw),.sl (x.b7.map Ng),.sl (x.bj.map sS),.sl (x.ct.map WI),.sl (x.cj.map Nh),.sl (x.cD.map yh),.sc (.int .i64 x.cm),.sl (x.land.map KV),.sl (x.bz.map Hy),.sl (x.windows.map PS),.sl (x.built.map PU),.sl (x.base.map Hu)]
structure rT where
 mz:Int
 my:Int
 jt:Int
 kf:Int
 cz:Int
 cN:(List ru)
 deriving DecidableEq,Inhabited
def amX(x:rT):List Tree:=[.sc (.int .i64 x.mz),.sc (.int .i64 x.my),.sc (.int .i64 x.jt),.sc (.int .i64 x.kf),.sc (.int .i64 x.cz),.sl (x.cN.map Ni)]
structure DA where
 oB:Int
 oy:Int
 oA:Int
 ox:Int
 z0:Int
 z1:Int
 deriving DecidableEq,Inhabited
def aoq(x:DA):List Tree:=[.sc (.int .i64 x.oB),.sc (.int .i64 x.oy),.sc (.int .i64 x.oA),.sc (.int .i64 x.ox),.sc (.int .i64 x.z0),.sc (.int .i64 x.z1)]
structure jv where
 lz:Int
 py:Int
 mi:Int
 t8:Int
 deriving DecidableEq,Inhabited
def amY(x:jv):List Tree:=[.sc (.int .i64 x.lz),.sc (.int .i64 x.py),.sc (.int .i64 x.mi),.sc (.int .i64 x.t8)]
structure lX where
 fm:(List fB)
 eE:(List cu)
 eS:(List dM)
 eW:(List bV)
 fp:(List fZ)
 eV:(List eU)
 gc:(List bT)
 fc:Int
 pS:(List bS)
 ka:(List je)
 lR:(List Eb)
 fS:(List iB)
 pT:(List bR)
 s7:Int
 mC:Int
 km:(List ax)
 oY:(List Int)
 cz:Int
 cN:(List ru)
 cy:(List aH)
 zones:(List ByteArray)
def ald(x:lX):List Tree:=[.sl (x.fm.map Ea),.sl (x.eE.map Hw),.sl (x.eS.map Ng),.sl (x.eW.map sS),.sl (x.fp.map WI),.sl (x.eV.map Nh),.sl (x.gc.map yh),.sc (.int .i64 x.fc),.sl (x.pS.map KV),.sl (x.ka.map Hy),.sl (x.lR.map PS),.sl (x.fS.map PU),.sl (x.pT.map Hu),.sc (.int .i64 x.s7),.sc (.int .i64 x.mC),.sl (x.km.map Jp),.sl (x.oY.map (λ y=>[.sc (.int .i64 y)])),.sc (.int .i64 x.cz),.sl (x.cN.map Ni),.sl (x.cy.map Jq),.sl (x.zones.map (λ y=>[.sc (.string y)]))]
structure ale where
 ci:(List fB)
 b8:(List cu)
 b7:(List dM)
 bj:(List bV)
 ct:(List fZ)
 cj:(List eU)
 cD:(List bT)
 cm:Int
 area:(List ax)
 cy:(List aH)
def alf(x:ale):List Tree:=[.sl (x.ci.map Ea),.sl (x.b8.map Hw),.sl (x.b7.map Ng),.sl (x.bj.map sS),.sl (x.ct.map WI),.sl (x.cj.map Nh),.sl (x.cD.map yh),.sc (.int .i64 x.cm),.sl (x.area.map Jp),.sl (x.cy.map Jq)]
structure Js where
 a0:ByteArray
 a1:ByteArray
 a2:ByteArray
 a3:ByteArray
 a4:ByteArray
 a5:ByteArray
 deriving DecidableEq,Inhabited
def aje(x:Js):List Tree:=[.sc (.string x.a0),.sc (.string x.a1),.sc (.string x.a2),.sc (.string x.a3),.sc (.string x.a4),.sc (.string x.a5)]
structure oM where
 defs:(List fB)
 uses:(List (List Int))
def alg(x:oM):List Tree:=[.sl (x.defs.map Ea),.sl (x.uses.map (λ y=>[.sl (y.map (λ y=>[.sc (.int .i64 y)]))]))]
structure fT where
 z0:Int
 z1:Int
 area:(List ax)
 deriving DecidableEq,Inhabited
def amZ(x:fT):List Tree:=[.sc (.int .i64 x.z0),.sc (.int .i64 x.z1),.sl (x.area.map Jp)]
structure dV where
 side:Int
 base:Int
 num:Int
 den:Int
 deriving DecidableEq,Inhabited
def alh(x:dV):List Tree:=[.sc (.int .i64 x.side),.sc (.int .i64 x.base),.sc (.int .i64 x.num),.sc (.int .i64 x.den)]
structure Nj where
 a0:Int
 a1:Int
 a2:Int
 a3:Int
 deriving DecidableEq,Inhabited
def ajf(x:Nj):List Tree:=[.sc (.int .i64 x.a0),.sc (.int .i64 x.a1),.sc (.int .i64 x.a2),.sc (.int .i64 x.a3)]
structure kZ where
 a0:Int
 a1:Int
 deriving DecidableEq,Inhabited
def ajg(x:kZ):List Tree:=[.sc (.int .i64 x.a0),.sc (.int .i64 x.a1)]
inductive SI where
 |Expr
 |Def
 |Entry
 |Table
 |iu
 |Zone
 |Rule
 |Cap
 |gx
 |View
 |j0
 |mj
 |span
 |strip
 |Lot
 |kx
 |i6
 |Phase
 |dE
 |eR
 |Window
 |gb
 |pN
 |site
 |D2
 |side
 |ke
 |ry
 |mT
 |graph
 |k8
 |gh
 |m4
 |er
 deriving DecidableEq
@[reducible] def TT:SI->Type
 | .Expr=>bZ
 | .Def=>fB
 | .Entry=>bR
 | .Table=>cu
 | .iu=>dQ
 | .Zone=>dM
 | .Rule=>bV
 | .Cap=>fZ
 | .gx=>bT
 | .View=>eU
 | .j0=>bB
 | .mj=>ax
 | .span=>aO
 | .strip=>bU
 | .Lot=>bS
 | .kx=>aR
 | .i6=>aH
 | .Phase=>ru
 | .dE=>bn
 | .eR=>je
 | .Window=>Eb
 | .gb=>iB
 | .pN=>bW
 | .site=>rT
 | .D2=>DA
 | .side=>jv
 | .ke=>lX
 | .ry=>ale
 | .mT=>Js
 | .graph=>oM
 | .k8=>fT
 | .gh=>dV
 | .m4=>Nj
 | .er=>kZ
def apc:(i:SI)->TT i->List Tree
 | .Expr,x=>qM x
 | .Def,x=>Ea x
 | .Entry,x=>Hu x
 | .Table,x=>Hw x
 | .iu,x=>WH x
 | .Zone,x=>Ng x
 | .Rule,x=>sS x
 | .Cap,x=>WI x
 | .gx,x=>yh x
 | .View,x=>Nh x
 | .j0,x=>Jo x
 | .mj,x=>Jp x
 | .span,x=>ahZ x
 | .strip,x=>alb x
 | .Lot,x=>KV x
 | .kx,x=>alc x
 | .i6,x=>Jq x
 | .Phase,x=>Ni x
 | .dE,x=>agc x
 | .eR,x=>Hy x
 | .Window,x=>PS x
 | .gb,x=>PU x
 | .pN,x=>Jr x
 | .site,x=>amX x
 | .D2,x=>aoq x
 | .side,x=>amY x
 | .ke,x=>ald x
 | .ry,x=>alf x
 | .mT,x=>aje x
 | .graph,x=>alg x
 | .k8,x=>amZ x
 | .gh,x=>alh x
 | .m4,x=>ajf x
 | .er,x=>ajg x
def se:SE:=⟨SI,inferInstance,TT,apc⟩
def T7:SI->List (CT SI)
 | .Expr=>[(.int .i64),(.int .i64),.str,.str,(.sl (.st SI.Expr))]
 | .Def=>[.str,(.int .i64),(.int .i64),.str,.str,(.sl (.st SI.Expr))]
 | .Entry=>[.str,(.int .i64)]
 | .Table=>[.str,(.sl (.st SI.Entry)),(.int .i64)]
 | .iu=>[(.int .i64),(.int .i64)]
 | .Zone=>[.str,.bool,(.sl (.st SI.iu))]
 | .Rule=>[.str,(.sl .str),(.sl .str),(.int .i64),(.int .i64),(.int .i64),.bool,(.int .i64),(.int .i64),(.int .i64),.str,.str,(.sl (.st SI.Expr)),(.int .i64),(.int .i64),(.int .i64),(.int .i64),(.int .i64),(.int .i64),(.int .i64)]
 | .Cap=>[.str,(.int .i64),(.int .i64),(.sl (.st SI.iu))]
 | .gx=>[(.int .i64),(.int .i64),(.int .i64)]
 | .View=>[.str,(.int .i64),(.int .i64),(.int .i64),(.int .i64),(.sl (.st SI.gx))]
 | .j0=>[(.sl (.st SI.Def)),(.sl (.st SI.Table)),(.sl (.st SI.Zone)),(.sl (.st SI.Rule)),(.sl (.st SI.Cap)),(.sl (.st SI.View)),(.sl (.st SI.gx)),(.int .i64)]
 | .mj=>[(.int .i64),(.int .i64),(.int .i64),(.int .i64)]
 | .span=>[(.int .i64),(.int .i64)]
 | .strip=>[(.int .i64),(.int .i64),(.sl (.st SI.span))]
 | .Lot=>[(.int .i64),(.int .i64),(.sl (.st SI.mj)),(.sl (.int .i64))]
 | .kx=>[(.int .i64),(.int .i64),(.int .i64),(.int .i64)]
 | .i6=>[(.int .i64),(.int .i64),(.int .i64),(.int .i64),(.int .i64),(.int .i64),(.int .i64),(.int .i64),.bool]
 | .Phase=>[(.sl (.st SI.i6)),(.sl (.st SI.Entry))]
 | .dE=>[(.int .i64),(.sl (.st SI.Phase))]
 | .eR=>[(.int .i64),(.sl (.st SI.mj)),(.int .i64)]
 | .Window=>[(.int .i64),(.int .i64),(.int .i64),(.int .i64)]
 | .gb=>[(.int .i64),(.int .i64),(.int .i64),(.int .i64),(.int .i64),(.int .i64),(.int .i64),(.int .i64),(.int .i64),.bool]
 | .pN=>[(.sl (.st SI.Def)),(.sl (.st SI.Table)),(.sl (.st SI.Zone)),(.sl (.st SI.Rule)),(.sl (.st SI.Cap)),(.sl (.st SI.View)),(.sl (.st SI.gx)),(.int .i64),(.sl (.st SI.Lot)),(.sl (.st SI.eR)),(.sl (.st SI.Window)),(.sl (.st SI.gb)),(.sl (.st SI.Entry))]
 | .site=>[(.int .i64),(.int .i64),(.int .i64),(.int .i64),(.int .i64),(.sl (.st SI.Phase))]
 | .D2=>[(.int .i64),(.int .i64),(.int .i64),(.int .i64),(.int .i64),(.int .i64)]
 | .side=>[(.int .i64),(.int .i64),(.int .i64),(.int .i64)]
 | .ke=>[(.sl (.st SI.Def)),(.sl (.st SI.Table)),(.sl (.st SI.Zone)),(.sl (.st SI.Rule)),(.sl (.st SI.Cap)),(.sl (.st SI.View)),(.sl (.st SI.gx)),(.int .i64),(.sl (.st SI.Lot)),(.sl (.st SI.eR)),(.sl (.st SI.Window)),(.sl (.st SI.gb)),(.sl (.st SI.Entry)),(.int .i64),(.int .i64),(.sl (.st SI.mj)),(.sl (.int .i64)),(.int .i64),(.sl (.st SI.Phase)),(.sl (.st SI.i6)),(.sl .str)]
 | .ry=>[(.sl (.st SI.Def)),(.sl (.st SI.Table)),(.sl (.st SI.Zone)),(.sl (.st SI.Rule)),(.sl (.st SI.Cap)),(.sl (.st SI.View)),(.sl (.st SI.gx)),(.int .i64),(.sl (.st SI.mj)),(.sl (.st SI.i6))]
 | .mT=>[.str,.str,.str,.str,.str,.str]
 | .graph=>[(.sl (.st SI.Def)),(.sl (.sl (.int .i64)))]
 | .k8=>[(.int .i64),(.int .i64),(.sl (.st SI.mj))]
 | .gh=>[(.int .i64),(.int .i64),(.int .i64),(.int .i64)]
 | .m4=>[(.int .i64),(.int .i64),(.int .i64),(.int .i64)]
 | .er=>[(.int .i64),(.int .i64)]
def apd:(i:SI)->TT i->HL se (T7 i)
 | .Expr,x=>(x.op,x.n,x.s,x.key,x.args,())
 | .Def,x=>(x.name,x.io,x.ly,x.kw,x.ia,x.en,())
 | .Entry,x=>(x.name,x.n,())
 | .Table,x=>(x.name,x.rows,x.sg,())
 | .iu,x=>(x.x,x.y,())
 | .Zone,x=>(x.name,x.overlay,x.corners,())
 | .Rule,x=>(x.name,x.zones,x.except,x.from_,x.j9,x.yz,x.vary,x.kind,x.kO,x.mn,x.mm,x.i9,x.fW,x.gR,x.gS,x.jj,x.jn,x.uses,x.other,x.n,())
 | .Cap,x=>(x.name,x.load,x.limit,x.corners,())
 | .gx,x=>(x.x,x.y,x.z,())
 | .View,x=>(x.name,x.zd,x.zc,x.y6,x.least,x.targets,())
 | .j0,x=>(x.defs,x.tables,x.zones,x.rules,x.caps,x.views,x.sm,x.hours,())
 | .mj,x=>(x.x0,x.y0,x.x1,x.y1,())
 | .span,x=>(x.from_,x.to,())
 | .strip,x=>(x.x0,x.x1,x.column,())
 | .Lot,x=>(x.id,x.owner,x.area,x.from_,())
 | .kx,x=>(x.lot,x.use,x.floors,x.ev,())
 | .i6,x=>(x.bu,x.ca,x.br,x.b9,x.ep,x.eb,x.use,x.units,x.extra,())
 | .Phase,x=>(x.cy,x.gives,())
 | .dE,x=>(x.lot,x.phases,())
 | .eR,x=>(x.lot,x.area,x.top,())
 | .Window,x=>(x.lot,x.Ix,x.Iv,x.It,())
 | .gb,x=>(x.lot,x.ef,x.ed,x.ee,x.ec,x.lf,x.ld,x.ff,x.lO,x.lP,())
 | .pN,x=>(x.ci,x.b8,x.b7,x.bj,x.ct,x.cj,x.cD,x.cm,x.land,x.bz,x.windows,x.built,x.base,())
 | .site,x=>(x.mz,x.my,x.jt,x.kf,x.cz,x.cN,())
 | .D2,x=>(x.oB,x.oy,x.oA,x.ox,x.z0,x.z1,())
 | .side,x=>(x.lz,x.py,x.mi,x.t8,())
 | .ke,x=>(x.fm,x.eE,x.eS,x.eW,x.fp,x.eV,x.gc,x.fc,x.pS,x.ka,x.lR,x.fS,x.pT,x.s7,x.mC,x.km,x.oY,x.cz,x.cN,x.cy,x.zones,())
 | .ry,x=>(x.ci,x.b8,x.b7,x.bj,x.ct,x.cj,x.cD,x.cm,x.area,x.cy,())
 | .mT,x=>(x.a0,x.a1,x.a2,x.a3,x.a4,x.a5,())
 | .graph,x=>(x.defs,x.uses,())
 | .k8,x=>(x.z0,x.z1,x.area,())
 | .gh,x=>(x.side,x.base,x.num,x.den,())
 | .m4,x=>(x.a0,x.a1,x.a2,x.a3,())
 | .er,x=>(x.a0,x.a1,())
def aoV:(i:SI)->HL se (T7 i)->TT i
 | .Expr,h=>⟨h.1,h.2.1,h.2.2.1,h.2.2.2.1,h.2.2.2.2.1⟩
 | .Def,h=>⟨h.1,h.2.1,h.2.2.1,h.2.2.2.1,h.2.2.2.2.1,h.2.2.2.2.2.1⟩
 | .Entry,h=>⟨h.1,h.2.1⟩
 | .Table,h=>⟨h.1,h.2.1,h.2.2.1⟩
 | .iu,h=>⟨h.1,h.2.1⟩
 | .Zone,h=>⟨h.1,h.2.1,h.2.2.1⟩
 | .Rule,h=>⟨h.1,h.2.1,h.2.2.1,h.2.2.2.1,h.2.2.2.2.1,h.2.2.2.2.2.1,h.2.2.2.2.2.2.1,h.2.2.2.2.2.2.2.1,h.2.2.2.2.2.2.2.2.1,h.2.2.2.2.2.2.2.2.2.1,h.2.2.2.2.2.2.2.2.2.2.1,h.2.2.2.2.2.2.2.2.2.2.2.1,h.2.2.2.2.2.2.2.2.2.2.2.2.1,h.2.2.2.2.2.2.2.2.2.2.2.2.2.1,h.2.2.2.2.2.2.2.2.2.2.2.2.2.2.1,h.2.2.2.2.2.2.2.2.2.2.2.2.2.2.2.1,h.2.2.2.2.2.2.2.2.2.2.2.2.2.2.2.2.1,h.2.2.2.2.2.2.2.2.2.2.2.2.2.2.2.2.2.1,h.2.2.2.2.2.2.2.2.2.2.2.2.2.2.2.2.2.2.1,h.2.2.2.2.2.2.2.2.2.2.2.2.2.2.2.2.2.2.2.1⟩
 | .Cap,h=>⟨h.1,h.2.1,h.2.2.1,h.2.2.2.1⟩
 | .gx,h=>⟨h.1,h.2.1,h.2.2.1⟩
 | .View,h=>⟨h.1,h.2.1,h.2.2.1,h.2.2.2.1,h.2.2.2.2.1,h.2.2.2.2.2.1⟩
 | .j0,h=>⟨h.1,h.2.1,h.2.2.1,h.2.2.2.1,h.2.2.2.2.1,h.2.2.2.2.2.1,h.2.2.2.2.2.2.1,h.2.2.2.2.2.2.2.1⟩
 | .mj,h=>⟨h.1,h.2.1,h.2.2.1,h.2.2.2.1⟩
 | .span,h=>⟨h.1,h.2.1⟩
 | .strip,h=>⟨h.1,h.2.1,h.2.2.1⟩
 | .Lot,h=>⟨h.1,h.2.1,h.2.2.1,h.2.2.2.1⟩
 | .kx,h=>⟨h.1,h.2.1,h.2.2.1,h.2.2.2.1⟩
 | .i6,h=>⟨h.1,h.2.1,h.2.2.1,h.2.2.2.1,h.2.2.2.2.1,h.2.2.2.2.2.1,h.2.2.2.2.2.2.1,h.2.2.2.2.2.2.2.1,h.2.2.2.2.2.2.2.2.1⟩
 | .Phase,h=>⟨h.1,h.2.1⟩
 | .dE,h=>⟨h.1,h.2.1⟩
 | .eR,h=>⟨h.1,h.2.1,h.2.2.1⟩
 | .Window,h=>⟨h.1,h.2.1,h.2.2.1,h.2.2.2.1⟩
 | .gb,h=>⟨h.1,h.2.1,h.2.2.1,h.2.2.2.1,h.2.2.2.2.1,h.2.2.2.2.2.1,h.2.2.2.2.2.2.1,h.2.2.2.2.2.2.2.1,h.2.2.2.2.2.2.2.2.1,h.2.2.2.2.2.2.2.2.2.1⟩
 | .pN,h=>⟨h.1,h.2.1,h.2.2.1,h.2.2.2.1,h.2.2.2.2.1,h.2.2.2.2.2.1,h.2.2.2.2.2.2.1,h.2.2.2.2.2.2.2.1,h.2.2.2.2.2.2.2.2.1,h.2.2.2.2.2.2.2.2.2.1,h.2.2.2.2.2.2.2.2.2.2.1,h.2.2.2.2.2.2.2.2.2.2.2.1,h.2.2.2.2.2.2.2.2.2.2.2.2.1⟩
 | .site,h=>⟨h.1,h.2.1,h.2.2.1,h.2.2.2.1,h.2.2.2.2.1,h.2.2.2.2.2.1⟩
 | .D2,h=>⟨h.1,h.2.1,h.2.2.1,h.2.2.2.1,h.2.2.2.2.1,h.2.2.2.2.2.1⟩
 | .side,h=>⟨h.1,h.2.1,h.2.2.1,h.2.2.2.1⟩
 | .ke,h=>⟨h.1,h.2.1,h.2.2.1,h.2.2.2.1,h.2.2.2.2.1,h.2.2.2.2.2.1,h.2.2.2.2.2.2.1,h.2.2.2.2.2.2.2.1,h.2.2.2.2.2.2.2.2.1,h.2.2.2.2.2.2.2.2.2.1,h.2.2.2.2.2.2.2.2.2.2.1,h.2.2.2.2.2.2.2.2.2.2.2.1,h.2.2.2.2.2.2.2.2.2.2.2.2.1,h.2.2.2.2.2.2.2.2.2.2.2.2.2.1,h.2.2.2.2.2.2.2.2.2.2.2.2.2.2.1,h.2.2.2.2.2.2.2.2.2.2.2.2.2.2.2.1,h.2.2.2.2.2.2.2.2.2.2.2.2.2.2.2.2.1,h.2.2.2.2.2.2.2.2.2.2.2.2.2.2.2.2.2.1,h.2.2.2.2.2.2.2.2.2.2.2.2.2.2.2.2.2.2.1,h.2.2.2.2.2.2.2.2.2.2.2.2.2.2.2.2.2.2.2.1,h.2.2.2.2.2.2.2.2.2.2.2.2.2.2.2.2.2.2.2.2.1⟩
 | .ry,h=>⟨h.1,h.2.1,h.2.2.1,h.2.2.2.1,h.2.2.2.2.1,h.2.2.2.2.2.1,h.2.2.2.2.2.2.1,h.2.2.2.2.2.2.2.1,h.2.2.2.2.2.2.2.2.1,h.2.2.2.2.2.2.2.2.2.1⟩
 | .mT,h=>⟨h.1,h.2.1,h.2.2.1,h.2.2.2.1,h.2.2.2.2.1,h.2.2.2.2.2.1⟩
 | .graph,h=>⟨h.1,h.2.1⟩
 | .k8,h=>⟨h.1,h.2.1,h.2.2.1⟩
 | .gh,h=>⟨h.1,h.2.1,h.2.2.1,h.2.2.2.1⟩
 | .m4,h=>⟨h.1,h.2.1,h.2.2.1,h.2.2.2.1⟩
 | .er,h=>⟨h.1,h.2.1⟩
def gvS:Nat->Option ((c:CT SI)×CT.T se c):=λ_=>none
def xx:SX:={ toSE:=se,cQ:=T7,get:=apd,make:=aoV,l4:=by intro i x;cases i<;>first |rfl |exact WG _,gd:=by intro i h;cases i<;>first |rfl |exact WG _,flat:=by intro i;cases i<;>rfl,gv:=gvS,yy:=λ_=>rfl }
abbrev c9:Value:=.slice none 0 0
abbrev c8:Value:=.int .i64 0
abbrev GP:Value:=.bool false
abbrev lL:Value:=.string ⟨#[]⟩
def tab:List (TypeId×nf):=[
 (2,⟨1,8,false,[c8],.int .i64,[]⟩),
 (3,⟨1,8,false,[c8],.int .i64,[]⟩),
 (4,⟨1,1,false,[GP],.bool,[]⟩),
 (9,⟨1,16,false,[lL],.str,[]⟩),
 (22,⟨1,24,false,[c9],.slice 139,[]⟩),
 (23,⟨1,24,false,[c9],.slice 141,[]⟩),
 (24,⟨1,24,false,[c9],.slice 144,[]⟩),
 (25,⟨1,24,false,[c9],.slice 107,[]⟩),
 (26,⟨1,24,false,[c9],.slice 146,[]⟩),
 (27,⟨1,24,false,[c9],.slice 393,[]⟩),
 (28,⟨1,24,false,[c9],.slice 391,[]⟩),
 (30,⟨8,176,true,[c9,c9,c9,c9,c9,c9,c9,c8],.struct [(0,22),(1,23),(2,24),(3,25),(4,26),(5,27),(6,28),(7,3)],[]⟩),
 (31,⟨1,24,false,[c9],.slice 54,[]⟩),
 (32,⟨1,24,false,[c9],.slice 112,[]⟩),
 (33,⟨1,24,false,[c9],.slice 395,[]⟩),
 (34,⟨1,24,false,[c9],.slice 223,[]⟩),
 (35,⟨1,24,false,[c9],.slice 199,[]⟩),
 (37,⟨13,296,true,[c9,c9,c9,c9,c9,c9,c9,c8,c9,c9,c9,c9,c9],.struct [(0,30),(8,31),(9,32),(10,33),(11,34),(12,35)],[]⟩),
 (40,⟨1,24,false,[c9],.slice 30,[]⟩),
 (42,⟨4,32,true,[c8,c8,c8,c8],.struct [(0,3),(1,3),(2,3),(3,3)],[0,0,0,0]⟩),
 (47,⟨1,24,false,[c9],.slice 4,[]⟩),
 (49,⟨1,24,false,[c9],.slice 42,[]⟩),
 (51,⟨1,24,false,[c9],.slice 66,[]⟩),
 (52,⟨1,24,false,[c9],.slice 3,[]⟩),
 (54,⟨4,64,true,[c8,c8,c9,c9],.struct [(0,3),(1,3),(2,51),(3,52)],[]⟩),
 (55,⟨1,24,false,[c9],.slice 95,[]⟩),
 (57,⟨2,32,true,[c8,c9],.struct [(0,3),(1,55)],[]⟩),
 (66,⟨4,32,true,[c8,c8,c8,c8],.struct [(0,3),(1,3),(2,3),(3,3)],[0,0,0,0]⟩),
 (73,⟨1,24,false,[c9],.slice 76,[]⟩),
 (76,⟨6,64,true,[c8,c8,c8,c8,c8,c9],.struct [(0,42),(4,57)],[]⟩),
 (78,⟨1,8,false,[.map none],.map 83 3,[]⟩),
 (79,⟨1,8,false,[.map none],.map 3 4,[]⟩),
 (83,⟨2,16,true,[c8,c8],.arr 2 3,[]⟩),
 (84,⟨1,8,false,[.nilFunc],.other,[]⟩),
 (90,⟨6,48,true,[c8,c8,c8,c8,c8,c8],.struct [(0,66),(4,3),(5,3)],[]⟩),
 (92,⟨9,72,true,[c8,c8,c8,c8,c8,c8,c8,c8,GP],.struct [(0,90),(6,3),(7,3),(8,4)],[]⟩),
 (93,⟨1,24,false,[c9],.slice 92,[]⟩),
 (95,⟨2,48,true,[c9,c9],.struct [(0,93),(1,35)],[]⟩),
 (96,⟨1,24,false,[c9],.slice 9,[]⟩),
 (101,⟨1,24,false,[c9],.slice 103,[]⟩),
 (103,⟨5,72,true,[c8,c8,lL,lL,c9],.struct [(0,3),(1,3),(2,9),(3,9),(4,101)],[]⟩),
 (105,⟨4,32,true,[c8,c8,c8,c8],.struct [(0,3),(1,3),(2,3),(3,3)],[0,0,0,0]⟩),
 (107,⟨20,232,true,[lL,c9,c9,c8,c8,c8,GP,c8,c8,c8,lL,lL,c9,c8,c8,c8,c8,c8,c8,c8],.struct [(0,9),(1,96),(2,96),(3,3),(4,3),(5,3),(6,4),(7,3),(8,103),(13,105),(17,3),(18,3),(19,3)],[]⟩),
 (112,⟨3,40,true,[c8,c9,c8],.struct [(0,3),(1,51),(2,3)],[]⟩),
 (121,⟨1,8,false,[.int .u64 0],.int .u64,[]⟩),
 (124,⟨21,440,true,[c9,c9,c9,c9,c9,c9,c9,c8,c9,c9,c9,c9,c9,c8,c8,c9,c9,c8,c9,c9,c9],.struct [(0,37),(13,54),(17,57),(19,93),(20,96)],[]⟩),
 (133,⟨1,24,false,[c9],.slice 178,[]⟩),
 (139,⟨6,88,true,[lL,c8,c8,lL,lL,c9],.struct [(0,9),(1,103)],[]⟩),
 (141,⟨3,48,true,[lL,c9,c8],.struct [(0,9),(1,35),(2,3)],[]⟩),
 (142,⟨1,24,false,[c9],.slice 249,[]⟩),
 (144,⟨3,48,true,[lL,GP,c9],.struct [(0,9),(1,4),(2,142)],[]⟩),
 (146,⟨4,56,true,[lL,c8,c8,c9],.struct [(0,9),(1,3),(2,3),(3,142)],[]⟩),
 (172,⟨1,24,false,[c9],.slice 105,[]⟩),
 (178,⟨3,40,true,[c8,c8,c9],.struct [(0,3),(1,3),(2,51)],[]⟩),
 (182,⟨1,24,false,[c9],.slice 186,[]⟩),
 (184,⟨1,24,false,[c9],.slice 236,[]⟩),
 (186,⟨3,40,true,[c8,c8,c9],.struct [(0,3),(1,3),(2,184)],[]⟩),
 (199,⟨2,24,true,[lL,c8],.struct [(0,9),(1,3)],[2,0]⟩),
 (206,⟨1,8,false,[.map none],.map 9 3,[]⟩),
 (208,⟨10,208,true,[c9,c9,c9,c9,c9,c9,c9,c8,.map none,c9],.struct [(0,30),(8,206),(9,96)],[]⟩),
 (211,⟨1,8,false,[.pointer none],.other,[]⟩),
 (213,⟨10,224,true,[c9,c9,c9,c9,c9,c9,c9,c8,c9,c9],.struct [(0,30),(8,51),(9,93)],[]⟩),
 (215,⟨1,8,false,[.nilFunc],.other,[]⟩),
 (217,⟨2,24,true,[lL,.nilFunc],.struct [(0,9),(1,215)],[]⟩),
 (218,⟨18,216,true,[lL,.nilFunc,lL,.nilFunc,lL,.nilFunc,lL,.nilFunc,lL,.nilFunc,lL,.nilFunc,lL,.nilFunc,lL,.nilFunc,lL,.nilFunc],.arr 9 217,[]⟩),
 (223,⟨10,80,true,[c8,c8,c8,c8,c8,c8,c8,c8,c8,GP],.struct [(0,3),(1,92)],[]⟩),
 (229,⟨1,24,false,[c9],.slice 51,[]⟩),
 (236,⟨2,16,true,[c8,c8],.struct [(0,3),(1,3)],[0,0]⟩),
 (246,⟨1,8,false,[.map none],.map 9 4,[]⟩),
 (249,⟨2,16,true,[c8,c8],.struct [(0,3),(1,3)],[0,0]⟩),
 (275,⟨1,24,false,[c9],.slice 184,[]⟩),
 (295,⟨4,32,true,[c8,c8,c8,c8],.arr 4 3,[]⟩),
 (312,⟨1,24,false,[c9],.slice 315,[]⟩),
 (315,⟨4,32,true,[c8,c8,c8,c8],.struct [(0,249),(2,249)],[]⟩),
 (316,⟨1,24,false,[c9],.slice 52,[]⟩),
 (318,⟨2,48,true,[c9,c9],.struct [(0,22),(1,316)],[]⟩),
 (328,⟨6,96,true,[lL,lL,lL,lL,lL,lL],.arr 6 9,[]⟩),
 (391,⟨3,24,true,[c8,c8,c8],.struct [(0,3),(1,3),(2,3)],[0,0,0]⟩),
 (393,⟨6,72,true,[lL,c8,c8,c8,c8,c9],.struct [(0,9),(1,391),(4,3),(5,28)],[]⟩),
 (395,⟨4,32,true,[c8,c8,c8,c8],.struct [(0,3),(1,391)],[]⟩)]
def aoW:List (TypeId×CT SI):=[(3,(.int .i64)),(4,.bool),(9,.str),(30,(.st SI.j0)),(42,(.st SI.kx)),(51,(.sl (.st SI.mj))),(54,(.st SI.Lot)),(66,(.st SI.mj)),(76,(.st SI.site)),(83,(.st SI.er)),(92,(.st SI.i6)),(95,(.st SI.Phase)),(103,(.st SI.Expr)),(105,(.st SI.gh)),(107,(.st SI.Rule)),(178,(.st SI.k8)),(184,(.sl (.st SI.span))),(186,(.st SI.strip)),(199,(.st SI.Entry)),(236,(.st SI.span)),(315,(.st SI.side))]
def anS:TypeId->Option (CT xx.ι):=lk aoW
theorem N5:eY Tryz.prog (Rf tab):=akm (by kernel_rfl)
theorem mixed:Tryz.prog.follows .mixedOrders=true:=Checked.mixed Tryz.checked
theorem cq{f:FuncId}{fn:Func}{l:List (FuncId×bx xx)}(hΓ:sC Tryz.prog (xl l))(hfn:Tryz.prog.funcs[f]? =some fn){s:bx xx}(h:Hn SI)(n:Nat)
 (hq : (fn.body.isSome && !(fn.name == "runtime.NumGoroutine") && decide (s.args.length <= fn.ntmps /\ p8 s.args <= 1000 /\ (s.res.filter RT.out).length = p8 s.args)) = true := by kernel_rfl) (hg : s.gen = none := by rfl)
 (hr:∀a,run (xl l) (Rf tab) anS fn.ntmps n (fn.body.getD .skip) (sD xx s.res) h (xa s.args a) (aoN (Rf tab) fn.results.toList s.res)=s.fn a:=by intro _;kernel_rfl):AE Tryz.prog f s:=by
 rw[aL,aL]at hq;obtain⟨⟨q1,q2⟩,q3⟩:=hq;have hb:fn.body=some (fn.body.getD .skip):=by
  cases hc:fn.body with
  |none=>rw[hc]at q1;cases q1
  |some c=>rfl
 have hn : (fn.name == "runtime.NumGoroutine") = false := by simpa using q2
 exact zp (mV hfn hb hn) (λ a _ e=>aoO N5 mixed hΓ hfn hb hn _ _ (of_decide_eq_true q3) h n ((hr a).trans e)) hg
theorem ov{f:FuncId}{fn:Func}{l:List (FuncId×bx xx)}(hΓ:sC Tryz.prog (xl l))(hfn:Tryz.prog.funcs[f]? =some fn){g:cX xx}(h:Hn SI)(n:Nat)
 (hq : (fn.body.isSome && !(fn.name == "runtime.NumGoroutine") && decide (g.px.length <= fn.ntmps) && g.AN) = true)
 (hr:∀v,run (xl l) (Rf tab) anS fn.ntmps n (fn.body.getD .skip) (VT (X:=xx) (zW g).vars) h (F1 g v) (anP (Rf tab) fn.results.toList g)=g.fn v):AE Tryz.prog f ⟨[],[.d .bool],λ_=>none,some g⟩:=by
 rw[aL,aL,aL]at hq;obtain⟨⟨⟨q1,q2⟩,q3⟩,q4⟩:=hq;have hb:fn.body=some (fn.body.getD .skip):=by
  cases hc:fn.body with
  |none=>rw[hc]at q1;cases q1
  |some c=>rfl
 have hn : (fn.name == "runtime.NumGoroutine") = false := by simpa using q2
 exact Mp (mV hfn hb hn) (aog N5 mixed hΓ hfn hb hn g (of_decide_eq_true q3) q4 h n (λ v _ e=>(hr v).trans e))
theorem gcn:sC Tryz.prog (xl ([]:List (FuncId×bx xx))):=aB
abbrev ah:CT SI:=.int .i64
abbrev bC:CT SI:=.st SI.Def
abbrev aZ:CT SI:=.st SI.Table
abbrev bE:CT SI:=.st SI.Zone
abbrev bg:CT SI:=.st SI.Rule
abbrev bJ:CT SI:=.st SI.Cap
abbrev aU:CT SI:=.st SI.gx
abbrev bH:CT SI:=.st SI.View
abbrev dw:CT SI:=.st SI.j0
abbrev ay:CT SI:=.st SI.mj
abbrev iM:CT SI:=.st SI.Lot
abbrev fq:CT SI:=.st SI.kx
abbrev aG:CT SI:=.st SI.i6
abbrev fJ:CT SI:=.st SI.pN
abbrev aJ(f:Nat)(s:bx xx):Prop:=AE Tryz.prog f s
abbrev gP:=(List fB)×(List cu)×(List dM)×(List bV)×(List fZ)×(List eU)×(List bT)×Int×(List ax)×(List aH)
end Go.Proofs
