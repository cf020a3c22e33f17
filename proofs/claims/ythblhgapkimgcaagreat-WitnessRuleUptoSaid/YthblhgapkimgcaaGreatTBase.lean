import Derived.Test.YthblhgapkimgcaaGreatH1
import Derived.Test.YthblhgapkimgcaaGreatChecked
namespace Go.Proofs
open Go.Gb Go.RowKit
structure cu where
 op:Int
 n:Int
 s:ByteArray
 key:ByteArray
 args:(List cu)
mutual
def qV:cu->List Tree
 |⟨f0,f1,f2,f3,f4⟩=>[.sc (.int .i64 f0),.sc (.int .i64 f1),.sc (.string f2),.sc (.string f3),.sl (tu f4)]
def tu:List cu->List (List Tree)
 |[]=>[]
 |x::xs=>qV x::tu xs
end
theorem tC:∀l:List cu,tu l=l.map qV
 |[]=>rfl
 |x::xs=>by rw[tu,tC xs];rfl
theorem WN(x:cu):qV x=[.sc (.int .i64 x.op),.sc (.int .i64 x.n),.sc (.string x.s),.sc (.string x.key),.sl (x.args.map qV)]:=by cases x;simp only[qV,tC]
structure fA where
 name:ByteArray
 io:Int
 lw:Int
 kw:ByteArray
 ia:ByteArray
 eo:(List cu)
def Eh(x:fA):List Tree:=[.sc (.string x.name),.sc (.int .i64 x.io),.sc (.int .i64 x.lw),.sc (.string x.kw),.sc (.string x.ia),.sl (x.eo.map qV)]
structure bS where
 name:ByteArray
 n:Int
 deriving DecidableEq,Inhabited
def H6(x:bS):List Tree:=[.sc (.string x.name),.sc (.int .i64 x.n)]
structure cB where
 name:ByteArray
 rows:(List bS)
 sk:Int
 deriving DecidableEq,Inhabited
def H7(x:cB):List Tree:=[.sc (.string x.name),.sl (x.rows.map H6),.sc (.int .i64 x.sk)]
structure dQ where
 x:Int
 y:Int
 deriving DecidableEq,Inhabited
def WO(x:dQ):List Tree:=[.sc (.int .i64 x.x),.sc (.int .i64 x.y)]
structure dO where
 name:ByteArray
 overlay:Bool
 corners:(List dQ)
 deriving DecidableEq,Inhabited
def Nl(x:dO):List Tree:=[.sc (.string x.name),.sc (.bool x.overlay),.sl (x.corners.map WO)]
structure bJ where
 name:ByteArray
 zones:(List ByteArray)
 except:(List ByteArray)
 from_:Int
 j9:Int
 yy:Int
 vary:Bool
 kind:Int
 kB:Int
 mn:Int
 mm:ByteArray
 i9:ByteArray
 fW:(List cu)
 gR:Int
 gS:Int
 jn:Int
 jp:Int
 uses:Int
 other:Int
 n:Int
def nC(x:bJ):List Tree:=[.sc (.string x.name),.sl (x.zones.map (λ y=>[.sc (.string y)])),.sl (x.except.map (λ y=>[.sc (.string y)])),.sc (.int .i64 x.from_),.sc (.int .i64 x.j9),.sc (.int .i64 x.yy),.sc (.bool x.vary),.sc (.int .i64 x.kind),.sc (.int .i64 x.kB),.sc (.int .i64 x.mn),.sc (.string x.mm),.sc (.string x.i9),.sl (x.fW.map qV),.sc (.int .i64 x.gR),.sc (.int .i64 x.gS),.sc (.int .i64 x.jn),.sc (.int .i64 x.jp),.sc (.int .i64 x.uses),.sc (.int .i64 x.other),.sc (.int .i64 x.n)]
structure fV where
 name:ByteArray
 load:Int
 limit:Int
 corners:(List dQ)
 deriving DecidableEq,Inhabited
def WQ(x:fV):List Tree:=[.sc (.string x.name),.sc (.int .i64 x.load),.sc (.int .i64 x.limit),.sl (x.corners.map WO)]
structure bV where
 x:Int
 y:Int
 z:Int
 deriving DecidableEq,Inhabited
def yB(x:bV):List Tree:=[.sc (.int .i64 x.x),.sc (.int .i64 x.y),.sc (.int .i64 x.z)]
structure eU where
 name:ByteArray
 zc:Int
 y6:Int
 y4:Int
 least:Int
 targets:(List bV)
 deriving DecidableEq,Inhabited
def Nn(x:eU):List Tree:=[.sc (.string x.name),.sc (.int .i64 x.zc),.sc (.int .i64 x.y6),.sc (.int .i64 x.y4),.sc (.int .i64 x.least),.sl (x.targets.map yB)]
structure bn where
 defs:(List fA)
 tables:(List cB)
 zones:(List dO)
 rules:(List bJ)
 caps:(List fV)
 views:(List eU)
 ml:(List bV)
 hours:Int
def Jw(x:bn):List Tree:=[.sl (x.defs.map Eh),.sl (x.tables.map H7),.sl (x.zones.map Nl),.sl (x.rules.map nC),.sl (x.caps.map WQ),.sl (x.views.map Nn),.sl (x.ml.map yB),.sc (.int .i64 x.hours)]
structure ax where
 x0:Int
 y0:Int
 x1:Int
 y1:Int
 deriving DecidableEq,Inhabited
def Jy(x:ax):List Tree:=[.sc (.int .i64 x.x0),.sc (.int .i64 x.y0),.sc (.int .i64 x.x1),.sc (.int .i64 x.y1)]
structure aO where
 from_:Int
 to:Int
 deriving DecidableEq,Inhabited
def ah9(x:aO):List Tree:=[.sc (.int .i64 x.from_),.sc (.int .i64 x.to)]
structure bW where
 x0:Int
 x1:Int
 column:(List aO)
 deriving DecidableEq,Inhabited
def aln(x:bW):List Tree:=[.sc (.int .i64 x.x0),.sc (.int .i64 x.x1),.sl (x.column.map ah9)]
structure bU where
 id:Int
 owner:Int
 area:(List ax)
 from_:(List Int)
 deriving DecidableEq,Inhabited
def K5(x:bU):List Tree:=[.sc (.int .i64 x.id),.sc (.int .i64 x.owner),.sl (x.area.map Jy),.sl (x.from_.map (λ y=>[.sc (.int .i64 y)]))]
structure aT where
 lot:Int
 use:Int
 floors:Int
 fL:Int
 deriving DecidableEq,Inhabited
def alo(x:aT):List Tree:=[.sc (.int .i64 x.lot),.sc (.int .i64 x.use),.sc (.int .i64 x.floors),.sc (.int .i64 x.fL)]
structure aH where
 bu:Int
 ca:Int
 br:Int
 b9:Int
 er:Int
 eb:Int
 use:Int
 units:Int
 extra:Bool
 deriving DecidableEq,Inhabited
def Jz(x:aH):List Tree:=[.sc (.int .i64 x.bu),.sc (.int .i64 x.ca),.sc (.int .i64 x.br),.sc (.int .i64 x.b9),.sc (.int .i64 x.er),.sc (.int .i64 x.eb),.sc (.int .i64 x.use),.sc (.int .i64 x.units),.sc (.bool x.extra)]
structure rJ where
 cy:(List aH)
 gives:(List bS)
 deriving DecidableEq,Inhabited
def Np(x:rJ):List Tree:=[.sl (x.cy.map Jz),.sl (x.gives.map H6)]
structure bq where
 lot:Int
 phases:(List rJ)
 deriving DecidableEq,Inhabited
def ags(x:bq):List Tree:=[.sc (.int .i64 x.lot),.sl (x.phases.map Np)]
structure jh where
 lot:Int
 area:(List ax)
 top:Int
 deriving DecidableEq,Inhabited
def H8(x:jh):List Tree:=[.sc (.int .i64 x.lot),.sl (x.area.map Jy),.sc (.int .i64 x.top)]
structure Ei where
 lot:Int
 ID:Int
 Ix:Int
 Iv:Int
 deriving DecidableEq,Inhabited
def P6(x:Ei):List Tree:=[.sc (.int .i64 x.lot),.sc (.int .i64 x.ID),.sc (.int .i64 x.Ix),.sc (.int .i64 x.Iv)]
structure iD where
 lot:Int
 ef:Int
 ed:Int
 ee:Int
 ec:Int
 ld:Int
 k9:Int
 fc:Int
 lL:Int
 lO:Bool
 deriving DecidableEq,Inhabited
def P7(x:iD):List Tree:=[.sc (.int .i64 x.lot),.sc (.int .i64 x.ef),.sc (.int .i64 x.ed),.sc (.int .i64 x.ee),.sc (.int .i64 x.ec),.sc (.int .i64 x.ld),.sc (.int .i64 x.k9),.sc (.int .i64 x.fc),.sc (.int .i64 x.lL),.sc (.bool x.lO)]
structure bT where
 ci:(List fA)
 b8:(List cB)
 b7:(List dO)
 aE:(List bJ)
 ct:(List fV)
 cj:(List eU)
 cz:(List bV)
 cm:Int
 land:(List bU)
 bx:(List jh)
 windows:(List Ei)
 built:(List iD)
 base:(List bS)
def JA(x:bT):List Tree:=[.sl (x.ci.map Eh),.sl (x.b8.map H7),.sl (x.b7.map Nl),.sl (x.aE.map nC),.sl (x.ct.map WQ),.sl (x.cj.map Nn),.sl (x.cz.map yB),.sc (.int .i64 x.cm),.sl (x.land.map K5),.sl (x.bx.map H8),.sl (x.windows.map P6),.sl (x.built.map P7),.sl (x.base.map H6)]
structure sD where
 mA:Int
 mz:Int
 ju:Int
 kf:Int
 cD:Int
 cN:(List rJ)
 deriving DecidableEq,Inhabited
def am7(x:sD):List Tree:=[.sc (.int .i64 x.mA),.sc (.int .i64 x.mz),.sc (.int .i64 x.ju),.sc (.int .i64 x.kf),.sc (.int .i64 x.cD),.sl (x.cN.map Np)]
structure De where
 oB:Int
 oy:Int
 oA:Int
 ox:Int
 z0:Int
 z1:Int
 deriving DecidableEq,Inhabited
def aoz(x:De):List Tree:=[.sc (.int .i64 x.oB),.sc (.int .i64 x.oy),.sc (.int .i64 x.oA),.sc (.int .i64 x.ox),.sc (.int .i64 x.z0),.sc (.int .i64 x.z1)]
structure jy where
 ly:Int
 pC:Int
 mf:Int
 t7:Int
 deriving DecidableEq,Inhabited
def am8(x:jy):List Tree:=[.sc (.int .i64 x.ly),.sc (.int .i64 x.pC),.sc (.int .i64 x.mf),.sc (.int .i64 x.t7)]
structure l6 where
 fj:(List fA)
 eC:(List cB)
 eR:(List dO)
 eV:(List bJ)
 fm:(List fV)
 eS:(List eU)
 gc:(List bV)
 eW:Int
 pT:(List bU)
 ka:(List jh)
 lP:(List Ei)
 fS:(List iD)
 pZ:(List bS)
 s6:Int
 mL:Int
 km:(List ax)
 oY:(List Int)
 cD:Int
 cN:(List rJ)
 cy:(List aH)
 zones:(List ByteArray)
def alp(x:l6):List Tree:=[.sl (x.fj.map Eh),.sl (x.eC.map H7),.sl (x.eR.map Nl),.sl (x.eV.map nC),.sl (x.fm.map WQ),.sl (x.eS.map Nn),.sl (x.gc.map yB),.sc (.int .i64 x.eW),.sl (x.pT.map K5),.sl (x.ka.map H8),.sl (x.lP.map P6),.sl (x.fS.map P7),.sl (x.pZ.map H6),.sc (.int .i64 x.s6),.sc (.int .i64 x.mL),.sl (x.km.map Jy),.sl (x.oY.map (λ y=>[.sc (.int .i64 y)])),.sc (.int .i64 x.cD),.sl (x.cN.map Np),.sl (x.cy.map Jz),.sl (x.zones.map (λ y=>[.sc (.string y)]))]
structure alq where
 ci:(List fA)
 b8:(List cB)
 b7:(List dO)
 aE:(List bJ)
 ct:(List fV)
 cj:(List eU)
 cz:(List bV)
 cm:Int
 area:(List ax)
 cy:(List aH)
def alr(x:alq):List Tree:=[.sl (x.ci.map Eh),.sl (x.b8.map H7),.sl (x.b7.map Nl),.sl (x.aE.map nC),.sl (x.ct.map WQ),.sl (x.cj.map Nn),.sl (x.cz.map yB),.sc (.int .i64 x.cm),.sl (x.area.map Jy),.sl (x.cy.map Jz)]
structure JB where
 a0:ByteArray
 a1:ByteArray
 a2:ByteArray
 a3:ByteArray
 a4:ByteArray
 a5:ByteArray
 deriving DecidableEq,Inhabited
def ajs(x:JB):List Tree:=[.sc (.string x.a0),.sc (.string x.a1),.sc (.string x.a2),.sc (.string x.a3),.sc (.string x.a4),.sc (.string x.a5)]
structure oU where
 defs:(List fA)
 uses:(List (List Int))
def als(x:oU):List Tree:=[.sl (x.defs.map Eh),.sl (x.uses.map (λ y=>[.sl (y.map (λ y=>[.sc (.int .i64 y)]))]))]
structure fQ where
 z0:Int
 z1:Int
 area:(List ax)
 deriving DecidableEq,Inhabited
def am9(x:fQ):List Tree:=[.sc (.int .i64 x.z0),.sc (.int .i64 x.z1),.sl (x.area.map Jy)]
structure dV where
 side:Int
 base:Int
 num:Int
 den:Int
 deriving DecidableEq,Inhabited
def alu(x:dV):List Tree:=[.sc (.int .i64 x.side),.sc (.int .i64 x.base),.sc (.int .i64 x.num),.sc (.int .i64 x.den)]
structure Nq where
 a0:Int
 a1:Int
 a2:Int
 a3:Int
 deriving DecidableEq,Inhabited
def ajt(x:Nq):List Tree:=[.sc (.int .i64 x.a0),.sc (.int .i64 x.a1),.sc (.int .i64 x.a2),.sc (.int .i64 x.a3)]
structure lC where
 a0:Int
 a1:Int
 deriving DecidableEq,Inhabited
def aju(x:lC):List Tree:=[.sc (.int .i64 x.a0),.sc (.int .i64 x.a1)]
inductive SI where
 |Expr
 |Def
 |Entry
 |Table
 |iu
 |Zone
 |Rule
 |Cap
 |gz
 |View
 |pr
 |mi
 |span
 |strip
 |Lot
 |j7
 |i6
 |Phase
 |dE
 |eQ
 |Window
 |gb
 |pP
 |site
 |D1
 |side
 |ke
 |rI
 |m4
 |graph
 |k7
 |gh
 |m5
 |en
 deriving DecidableEq
@[reducible] def TT:SI->Type
 | .Expr=>cu
 | .Def=>fA
 | .Entry=>bS
 | .Table=>cB
 | .iu=>dQ
 | .Zone=>dO
 | .Rule=>bJ
 | .Cap=>fV
 | .gz=>bV
 | .View=>eU
 | .pr=>bn
 | .mi=>ax
 | .span=>aO
 | .strip=>bW
 | .Lot=>bU
 | .j7=>aT
 | .i6=>aH
 | .Phase=>rJ
 | .dE=>bq
 | .eQ=>jh
 | .Window=>Ei
 | .gb=>iD
 | .pP=>bT
 | .site=>sD
 | .D1=>De
 | .side=>jy
 | .ke=>l6
 | .rI=>alq
 | .m4=>JB
 | .graph=>oU
 | .k7=>fQ
 | .gh=>dV
 | .m5=>Nq
 | .en=>lC
def apm:(i:SI)->TT i->List Tree
 | .Expr,x=>qV x
 | .Def,x=>Eh x
 | .Entry,x=>H6 x
 | .Table,x=>H7 x
 | .iu,x=>WO x
 | .Zone,x=>Nl x
 | .Rule,x=>nC x
 | .Cap,x=>WQ x
 | .gz,x=>yB x
 | .View,x=>Nn x
 | .pr,x=>Jw x
 | .mi,x=>Jy x
 | .span,x=>ah9 x
 | .strip,x=>aln x
 | .Lot,x=>K5 x
 | .j7,x=>alo x
 | .i6,x=>Jz x
 | .Phase,x=>Np x
 | .dE,x=>ags x
 | .eQ,x=>H8 x
 | .Window,x=>P6 x
 | .gb,x=>P7 x
 | .pP,x=>JA x
 | .site,x=>am7 x
 | .D1,x=>aoz x
 | .side,x=>am8 x
 | .ke,x=>alp x
 | .rI,x=>alr x
 | .m4,x=>ajs x
 | .graph,x=>als x
 | .k7,x=>am9 x
 | .gh,x=>alu x
 | .m5,x=>ajt x
 | .en,x=>aju x
def se:SE:=⟨SI,inferInstance,TT,apm⟩
def V1:SI->List (CT SI)
 | .Expr=>[(.int .i64),(.int .i64),.str,.str,(.sl (.st SI.Expr))]
 | .Def=>[.str,(.int .i64),(.int .i64),.str,.str,(.sl (.st SI.Expr))]
 | .Entry=>[.str,(.int .i64)]
 | .Table=>[.str,(.sl (.st SI.Entry)),(.int .i64)]
 | .iu=>[(.int .i64),(.int .i64)]
 | .Zone=>[.str,.bool,(.sl (.st SI.iu))]
 | .Rule=>[.str,(.sl .str),(.sl .str),(.int .i64),(.int .i64),(.int .i64),.bool,(.int .i64),(.int .i64),(.int .i64),.str,.str,(.sl (.st SI.Expr)),(.int .i64),(.int .i64),(.int .i64),(.int .i64),(.int .i64),(.int .i64),(.int .i64)]
 | .Cap=>[.str,(.int .i64),(.int .i64),(.sl (.st SI.iu))]
 | .gz=>[(.int .i64),(.int .i64),(.int .i64)]
 | .View=>[.str,(.int .i64),(.int .i64),(.int .i64),(.int .i64),(.sl (.st SI.gz))]
 | .pr=>[(.sl (.st SI.Def)),(.sl (.st SI.Table)),(.sl (.st SI.Zone)),(.sl (.st SI.Rule)),(.sl (.st SI.Cap)),(.sl (.st SI.View)),(.sl (.st SI.gz)),(.int .i64)]
 | .mi=>[(.int .i64),(.int .i64),(.int .i64),(.int .i64)]
 | .span=>[(.int .i64),(.int .i64)]
 | .strip=>[(.int .i64),(.int .i64),(.sl (.st SI.span))]
 | .Lot=>[(.int .i64),(.int .i64),(.sl (.st SI.mi)),(.sl (.int .i64))]
 | .j7=>[(.int .i64),(.int .i64),(.int .i64),(.int .i64)]
 | .i6=>[(.int .i64),(.int .i64),(.int .i64),(.int .i64),(.int .i64),(.int .i64),(.int .i64),(.int .i64),.bool]
 | .Phase=>[(.sl (.st SI.i6)),(.sl (.st SI.Entry))]
 | .dE=>[(.int .i64),(.sl (.st SI.Phase))]
 | .eQ=>[(.int .i64),(.sl (.st SI.mi)),(.int .i64)]
 | .Window=>[(.int .i64),(.int .i64),(.int .i64),(.int .i64)]
 | .gb=>[(.int .i64),(.int .i64),(.int .i64),(.int .i64),(.int .i64),(.int .i64),(.int .i64),(.int .i64),(.int .i64),.bool]
 | .pP=>[(.sl (.st SI.Def)),(.sl (.st SI.Table)),(.sl (.st SI.Zone)),(.sl (.st SI.Rule)),(.sl (.st SI.Cap)),(.sl (.st SI.View)),(.sl (.st SI.gz)),(.int .i64),(.sl (.st SI.Lot)),(.sl (.st SI.eQ)),(.sl (.st SI.Window)),(.sl (.st SI.gb)),(.sl (.st SI.Entry))]
 | .site=>[(.int .i64),(.int .i64),(.int .i64),(.int .i64),(.int .i64),(.sl (.st SI.Phase))]
 | .D1=>[(.int .i64),(.int .i64),(.int .i64),(.int .i64),(.int .i64),(.int .i64)]
 | .side=>[(.int .i64),(.int .i64),(.int .i64),(.int .i64)]
 | .ke=>[(.sl (.st SI.Def)),(.sl (.st SI.Table)),(.sl (.st SI.Zone)),(.sl (.st SI.Rule)),(.sl (.st SI.Cap)),(.sl (.st SI.View)),(.sl (.st SI.gz)),(.int .i64),(.sl (.st SI.Lot)),(.sl (.st SI.eQ)),(.sl (.st SI.Window)),(.sl (.st SI.gb)),(.sl (.st SI.Entry)),(.int .i64),(.int .i64),(.sl (.st SI.mi)),(.sl (.int .i64)),(.int .i64),(.sl (.st SI.Phase)),(.sl (.st SI.i6)),(.sl .str)]
 | .rI=>[(.sl (.st SI.Def)),(.sl (.st SI.Table)),(.sl (.st SI.Zone)),(.sl (.st SI.Rule)),(.sl (.st SI.Cap)),(.sl (.st SI.View)),(.sl (.st SI.gz)),(.int .i64),(.sl (.st SI.mi)),(.sl (.st SI.i6))]
 | .m4=>[.str,.str,.str,.str,.str,.str]
 | .graph=>[(.sl (.st SI.Def)),(.sl (.sl (.int .i64)))]
 | .k7=>[(.int .i64),(.int .i64),(.sl (.st SI.mi))]
 | .gh=>[(.int .i64),(.int .i64),(.int .i64),(.int .i64)]
 | .m5=>[(.int .i64),(.int .i64),(.int .i64),(.int .i64)]
 | .en=>[(.int .i64),(.int .i64)]
def apn:(i:SI)->TT i->HL se (V1 i)
 | .Expr,x=>(x.op,x.n,x.s,x.key,x.args,())
 | .Def,x=>(x.name,x.io,x.lw,x.kw,x.ia,x.eo,())
 | .Entry,x=>(x.name,x.n,())
 | .Table,x=>(x.name,x.rows,x.sk,())
 | .iu,x=>(x.x,x.y,())
 | .Zone,x=>(x.name,x.overlay,x.corners,())
 | .Rule,x=>(x.name,x.zones,x.except,x.from_,x.j9,x.yy,x.vary,x.kind,x.kB,x.mn,x.mm,x.i9,x.fW,x.gR,x.gS,x.jn,x.jp,x.uses,x.other,x.n,())
 | .Cap,x=>(x.name,x.load,x.limit,x.corners,())
 | .gz,x=>(x.x,x.y,x.z,())
 | .View,x=>(x.name,x.zc,x.y6,x.y4,x.least,x.targets,())
 | .pr,x=>(x.defs,x.tables,x.zones,x.rules,x.caps,x.views,x.ml,x.hours,())
 | .mi,x=>(x.x0,x.y0,x.x1,x.y1,())
 | .span,x=>(x.from_,x.to,())
 | .strip,x=>(x.x0,x.x1,x.column,())
 | .Lot,x=>(x.id,x.owner,x.area,x.from_,())
 | .j7,x=>(x.lot,x.use,x.floors,x.fL,())
 | .i6,x=>(x.bu,x.ca,x.br,x.b9,x.er,x.eb,x.use,x.units,x.extra,())
 | .Phase,x=>(x.cy,x.gives,())
 | .dE,x=>(x.lot,x.phases,())
 | .eQ,x=>(x.lot,x.area,x.top,())
 | .Window,x=>(x.lot,x.ID,x.Ix,x.Iv,())
 | .gb,x=>(x.lot,x.ef,x.ed,x.ee,x.ec,x.ld,x.k9,x.fc,x.lL,x.lO,())
 | .pP,x=>(x.ci,x.b8,x.b7,x.aE,x.ct,x.cj,x.cz,x.cm,x.land,x.bx,x.windows,x.built,x.base,())
 | .site,x=>(x.mA,x.mz,x.ju,x.kf,x.cD,x.cN,())
 | .D1,x=>(x.oB,x.oy,x.oA,x.ox,x.z0,x.z1,())
 | .side,x=>(x.ly,x.pC,x.mf,x.t7,())
 | .ke,x=>(x.fj,x.eC,x.eR,x.eV,x.fm,x.eS,x.gc,x.eW,x.pT,x.ka,x.lP,x.fS,x.pZ,x.s6,x.mL,x.km,x.oY,x.cD,x.cN,x.cy,x.zones,())
 | .rI,x=>(x.ci,x.b8,x.b7,x.aE,x.ct,x.cj,x.cz,x.cm,x.area,x.cy,())
 | .m4,x=>(x.a0,x.a1,x.a2,x.a3,x.a4,x.a5,())
 | .graph,x=>(x.defs,x.uses,())
 | .k7,x=>(x.z0,x.z1,x.area,())
 | .gh,x=>(x.side,x.base,x.num,x.den,())
 | .m5,x=>(x.a0,x.a1,x.a2,x.a3,())
 | .en,x=>(x.a0,x.a1,())
def ao4:(i:SI)->HL se (V1 i)->TT i
 | .Expr,h=>⟨h.1,h.2.1,h.2.2.1,h.2.2.2.1,h.2.2.2.2.1⟩
 | .Def,h=>⟨h.1,h.2.1,h.2.2.1,h.2.2.2.1,h.2.2.2.2.1,h.2.2.2.2.2.1⟩
 | .Entry,h=>⟨h.1,h.2.1⟩
 | .Table,h=>⟨h.1,h.2.1,h.2.2.1⟩
 | .iu,h=>⟨h.1,h.2.1⟩
 | .Zone,h=>⟨h.1,h.2.1,h.2.2.1⟩
 | .Rule,h=>⟨h.1,h.2.1,h.2.2.1,h.2.2.2.1,h.2.2.2.2.1,h.2.2.2.2.2.1,h.2.2.2.2.2.2.1,h.2.2.2.2.2.2.2.1,h.2.2.2.2.2.2.2.2.1,h.2.2.2.2.2.2.2.2.2.1,h.2.2.2.2.2.2.2.2.2.2.1,h.2.2.2.2.2.2.2.2.2.2.2.1,h.2.2.2.2.2.2.2.2.2.2.2.2.1,h.2.2.2.2.2.2.2.2.2.2.2.2.2.1,h.2.2.2.2.2.2.2.2.2.2.2.2.2.2.1,h.2.2.2.2.2.2.2.2.2.2.2.2.2.2.2.1,h.2.2.2.2.2.2.2.2.2.2.2.2.2.2.2.2.1,h.2.2.2.2.2.2.2.2.2.2.2.2.2.2.2.2.2.1,h.2.2.2.2.2.2.2.2.2.2.2.2.2.2.2.2.2.2.1,h.2.2.2.2.2.2.2.2.2.2.2.2.2.2.2.2.2.2.2.1⟩
 | .Cap,h=>⟨h.1,h.2.1,h.2.2.1,h.2.2.2.1⟩
 | .gz,h=>⟨h.1,h.2.1,h.2.2.1⟩
 | .View,h=>⟨h.1,h.2.1,h.2.2.1,h.2.2.2.1,h.2.2.2.2.1,h.2.2.2.2.2.1⟩
 | .pr,h=>⟨h.1,h.2.1,h.2.2.1,h.2.2.2.1,h.2.2.2.2.1,h.2.2.2.2.2.1,h.2.2.2.2.2.2.1,h.2.2.2.2.2.2.2.1⟩
 | .mi,h=>⟨h.1,h.2.1,h.2.2.1,h.2.2.2.1⟩
 | .span,h=>⟨h.1,h.2.1⟩
 | .strip,h=>⟨h.1,h.2.1,h.2.2.1⟩
 | .Lot,h=>⟨h.1,h.2.1,h.2.2.1,h.2.2.2.1⟩
 | .j7,h=>⟨h.1,h.2.1,h.2.2.1,h.2.2.2.1⟩
 | .i6,h=>⟨h.1,h.2.1,h.2.2.1,h.2.2.2.1,h.2.2.2.2.1,h.2.2.2.2.2.1,h.2.2.2.2.2.2.1,h.2.2.2.2.2.2.2.1,h.2.2.2.2.2.2.2.2.1⟩
 | .Phase,h=>⟨h.1,h.2.1⟩
 | .dE,h=>⟨h.1,h.2.1⟩
 | .eQ,h=>⟨h.1,h.2.1,h.2.2.1⟩
 | .Window,h=>⟨h.1,h.2.1,h.2.2.1,h.2.2.2.1⟩
 | .gb,h=>⟨h.1,h.2.1,h.2.2.1,h.2.2.2.1,h.2.2.2.2.1,h.2.2.2.2.2.1,h.2.2.2.2.2.2.1,h.2.2.2.2.2.2.2.1,h.2.2.2.2.2.2.2.2.1,h.2.2.2.2.2.2.2.2.2.1⟩
 | .pP,h=>⟨h.1,h.2.1,h.2.2.1,h.2.2.2.1,h.2.2.2.2.1,h.2.2.2.2.2.1,h.2.2.2.2.2.2.1,h.2.2.2.2.2.2.2.1,h.2.2.2.2.2.2.2.2.1,h.2.2.2.2.2.2.2.2.2.1,h.2.2.2.2.2.2.2.2.2.2.1,h.2.2.2.2.2.2.2.2.2.2.2.1,h.2.2.2.2.2.2.2.2.2.2.2.2.1⟩
 | .site,h=>⟨h.1,h.2.1,h.2.2.1,h.2.2.2.1,h.2.2.2.2.1,h.2.2.2.2.2.1⟩
 | .D1,h=>⟨h.1,h.2.1,h.2.2.1,h.2.2.2.1,h.2.2.2.2.1,h.2.2.2.2.2.1⟩
 | .side,h=>⟨h.1,h.2.1,h.2.2.1,h.2.2.2.1⟩
 | .ke,h=>⟨h.1,h.2.1,h.2.2.1,h.2.2.2.1,h.2.2.2.2.1,h.2.2.2.2.2.1,h.2.2.2.2.2.2.1,h.2.2.2.2.2.2.2.1,h.2.2.2.2.2.2.2.2.1,h.2.2.2.2.2.2.2.2.2.1,h.2.2.2.2.2.2.2.2.2.2.1,h.2.2.2.2.2.2.2.2.2.2.2.1,h.2.2.2.2.2.2.2.2.2.2.2.2.1,h.2.2.2.2.2.2.2.2.2.2.2.2.2.1,h.2.2.2.2.2.2.2.2.2.2.2.2.2.2.1,h.2.2.2.2.2.2.2.2.2.2.2.2.2.2.2.1,h.2.2.2.2.2.2.2.2.2.2.2.2.2.2.2.2.1,h.2.2.2.2.2.2.2.2.2.2.2.2.2.2.2.2.2.1,h.2.2.2.2.2.2.2.2.2.2.2.2.2.2.2.2.2.2.1,h.2.2.2.2.2.2.2.2.2.2.2.2.2.2.2.2.2.2.2.1,h.2.2.2.2.2.2.2.2.2.2.2.2.2.2.2.2.2.2.2.2.1⟩
 | .rI,h=>⟨h.1,h.2.1,h.2.2.1,h.2.2.2.1,h.2.2.2.2.1,h.2.2.2.2.2.1,h.2.2.2.2.2.2.1,h.2.2.2.2.2.2.2.1,h.2.2.2.2.2.2.2.2.1,h.2.2.2.2.2.2.2.2.2.1⟩
 | .m4,h=>⟨h.1,h.2.1,h.2.2.1,h.2.2.2.1,h.2.2.2.2.1,h.2.2.2.2.2.1⟩
 | .graph,h=>⟨h.1,h.2.1⟩
 | .k7,h=>⟨h.1,h.2.1,h.2.2.1⟩
 | .gh,h=>⟨h.1,h.2.1,h.2.2.1,h.2.2.2.1⟩
 | .m5,h=>⟨h.1,h.2.1,h.2.2.1,h.2.2.2.1⟩
 | .en,h=>⟨h.1,h.2.1⟩
def gvS:Nat->Option ((c:CT SI)×CT.T se c):=λ_=>none
def xx:SX:={ toSE:=se,cQ:=V1,get:=apn,make:=ao4,lR:=by intro i x;cases i<;>first |rfl |exact WN _,gd:=by intro i h;cases i<;>first |rfl |exact WN _,flat:=by intro i;cases i<;>rfl,gv:=gvS,yv:=λ_=>rfl }
abbrev c9:Value:=.slice none 0 0
abbrev c8:Value:=.int .i64 0
abbrev GO:Value:=.bool false
abbrev lE:Value:=.string ⟨#[]⟩
def tab:List (TypeId×nh):=[
 (2,⟨1,8,false,[c8],.int .i64,[]⟩),
 (3,⟨1,8,false,[c8],.int .i64,[]⟩),
 (4,⟨1,1,false,[GO],.bool,[]⟩),
 (9,⟨1,16,false,[lE],.str,[]⟩),
 (22,⟨1,24,false,[c9],.slice 141,[]⟩),
 (23,⟨1,24,false,[c9],.slice 143,[]⟩),
 (24,⟨1,24,false,[c9],.slice 146,[]⟩),
 (25,⟨1,24,false,[c9],.slice 45,[]⟩),
 (26,⟨1,24,false,[c9],.slice 148,[]⟩),
 (27,⟨1,24,false,[c9],.slice 389,[]⟩),
 (28,⟨1,24,false,[c9],.slice 387,[]⟩),
 (30,⟨8,176,true,[c9,c9,c9,c9,c9,c9,c9,c8],.struct [(0,22),(1,23),(2,24),(3,25),(4,26),(5,27),(6,28),(7,3)],[]⟩),
 (31,⟨1,24,false,[c9],.slice 57,[]⟩),
 (32,⟨1,24,false,[c9],.slice 109,[]⟩),
 (33,⟨1,24,false,[c9],.slice 391,[]⟩),
 (34,⟨1,24,false,[c9],.slice 180,[]⟩),
 (35,⟨1,24,false,[c9],.slice 156,[]⟩),
 (37,⟨13,296,true,[c9,c9,c9,c9,c9,c9,c9,c8,c9,c9,c9,c9,c9],.struct [(0,30),(8,31),(9,32),(10,33),(11,34),(12,35)],[]⟩),
 (38,⟨1,24,false,[c9],.slice 9,[]⟩),
 (39,⟨1,24,false,[c9],.slice 41,[]⟩),
 (41,⟨5,72,true,[c8,c8,lE,lE,c9],.struct [(0,3),(1,3),(2,9),(3,9),(4,39)],[]⟩),
 (43,⟨4,32,true,[c8,c8,c8,c8],.struct [(0,3),(1,3),(2,3),(3,3)],[0,0,0,0]⟩),
 (45,⟨20,232,true,[lE,c9,c9,c8,c8,c8,GO,c8,c8,c8,lE,lE,c9,c8,c8,c8,c8,c8,c8,c8],.struct [(0,9),(1,38),(2,38),(3,3),(4,3),(5,3),(6,4),(7,3),(8,41),(13,43),(17,3),(18,3),(19,3)],[]⟩),
 (48,⟨1,24,false,[c9],.slice 30,[]⟩),
 (51,⟨4,32,true,[c8,c8,c8,c8],.struct [(0,3),(1,3),(2,3),(3,3)],[0,0,0,0]⟩),
 (54,⟨1,24,false,[c9],.slice 69,[]⟩),
 (55,⟨1,24,false,[c9],.slice 3,[]⟩),
 (57,⟨4,64,true,[c8,c8,c9,c9],.struct [(0,3),(1,3),(2,54),(3,55)],[]⟩),
 (58,⟨1,24,false,[c9],.slice 85,[]⟩),
 (60,⟨2,32,true,[c8,c9],.struct [(0,3),(1,58)],[]⟩),
 (69,⟨4,32,true,[c8,c8,c8,c8],.struct [(0,3),(1,3),(2,3),(3,3)],[0,0,0,0]⟩),
 (72,⟨1,24,false,[c9],.slice 4,[]⟩),
 (80,⟨6,48,true,[c8,c8,c8,c8,c8,c8],.struct [(0,69),(4,3),(5,3)],[]⟩),
 (82,⟨9,72,true,[c8,c8,c8,c8,c8,c8,c8,c8,GO],.struct [(0,80),(6,3),(7,3),(8,4)],[]⟩),
 (83,⟨1,24,false,[c9],.slice 82,[]⟩),
 (85,⟨2,48,true,[c9,c9],.struct [(0,83),(1,35)],[]⟩),
 (87,⟨21,440,true,[c9,c9,c9,c9,c9,c9,c9,c8,c9,c9,c9,c9,c9,c8,c8,c9,c9,c8,c9,c9,c9],.struct [(0,37),(13,57),(17,60),(19,83),(20,38)],[]⟩),
 (96,⟨1,24,false,[c9],.slice 133,[]⟩),
 (102,⟨1,24,false,[c9],.slice 105,[]⟩),
 (105,⟨6,64,true,[c8,c8,c8,c8,c8,c9],.struct [(0,51),(4,60)],[]⟩),
 (109,⟨3,40,true,[c8,c9,c8],.struct [(0,3),(1,54),(2,3)],[]⟩),
 (126,⟨1,24,false,[c9],.slice 43,[]⟩),
 (133,⟨3,40,true,[c8,c8,c9],.struct [(0,3),(1,3),(2,54)],[]⟩),
 (137,⟨1,24,false,[c9],.slice 51,[]⟩),
 (141,⟨6,88,true,[lE,c8,c8,lE,lE,c9],.struct [(0,9),(1,41)],[]⟩),
 (143,⟨3,48,true,[lE,c9,c8],.struct [(0,9),(1,35),(2,3)],[]⟩),
 (144,⟨1,24,false,[c9],.slice 209,[]⟩),
 (146,⟨3,48,true,[lE,GO,c9],.struct [(0,9),(1,4),(2,144)],[]⟩),
 (148,⟨4,56,true,[lE,c8,c8,c9],.struct [(0,9),(1,3),(2,3),(3,144)],[]⟩),
 (156,⟨2,24,true,[lE,c8],.struct [(0,9),(1,3)],[2,0]⟩),
 (163,⟨1,8,false,[.map none],.map 9 3,[]⟩),
 (165,⟨10,208,true,[c9,c9,c9,c9,c9,c9,c9,c8,.map none,c9],.struct [(0,30),(8,163),(9,38)],[]⟩),
 (168,⟨1,8,false,[.pointer none],.other,[]⟩),
 (170,⟨10,224,true,[c9,c9,c9,c9,c9,c9,c9,c8,c9,c9],.struct [(0,30),(8,54),(9,83)],[]⟩),
 (172,⟨1,8,false,[.nilFunc],.other,[]⟩),
 (174,⟨2,24,true,[lE,.nilFunc],.struct [(0,9),(1,172)],[]⟩),
 (175,⟨18,216,true,[lE,.nilFunc,lE,.nilFunc,lE,.nilFunc,lE,.nilFunc,lE,.nilFunc,lE,.nilFunc,lE,.nilFunc,lE,.nilFunc,lE,.nilFunc],.arr 9 174,[]⟩),
 (180,⟨10,80,true,[c8,c8,c8,c8,c8,c8,c8,c8,c8,GO],.struct [(0,3),(1,82)],[]⟩),
 (187,⟨1,8,false,[.map none],.map 189 3,[]⟩),
 (188,⟨1,8,false,[.map none],.map 3 4,[]⟩),
 (189,⟨2,16,true,[c8,c8],.arr 2 3,[]⟩),
 (190,⟨1,8,false,[.nilFunc],.other,[]⟩),
 (195,⟨1,24,false,[c9],.slice 199,[]⟩),
 (197,⟨1,24,false,[c9],.slice 241,[]⟩),
 (199,⟨3,40,true,[c8,c8,c9],.struct [(0,3),(1,3),(2,197)],[]⟩),
 (206,⟨1,8,false,[.map none],.map 9 4,[]⟩),
 (209,⟨2,16,true,[c8,c8],.struct [(0,3),(1,3)],[0,0]⟩),
 (234,⟨1,8,false,[.int .u64 0],.int .u64,[]⟩),
 (236,⟨1,24,false,[c9],.slice 54,[]⟩),
 (241,⟨2,16,true,[c8,c8],.struct [(0,3),(1,3)],[0,0]⟩),
 (264,⟨4,32,true,[c8,c8,c8,c8],.arr 4 3,[]⟩),
 (281,⟨1,24,false,[c9],.slice 197,[]⟩),
 (289,⟨1,24,false,[c9],.slice 292,[]⟩),
 (292,⟨4,32,true,[c8,c8,c8,c8],.struct [(0,209),(2,209)],[]⟩),
 (293,⟨1,24,false,[c9],.slice 55,[]⟩),
 (295,⟨2,48,true,[c9,c9],.struct [(0,22),(1,293)],[]⟩),
 (311,⟨6,96,true,[lE,lE,lE,lE,lE,lE],.arr 6 9,[]⟩),
 (387,⟨3,24,true,[c8,c8,c8],.struct [(0,3),(1,3),(2,3)],[0,0,0]⟩),
 (389,⟨6,72,true,[lE,c8,c8,c8,c8,c9],.struct [(0,9),(1,387),(4,3),(5,28)],[]⟩),
 (391,⟨4,32,true,[c8,c8,c8,c8],.struct [(0,3),(1,387)],[]⟩)]
def ao5:List (TypeId×CT SI):=[(3,(.int .i64)),(4,.bool),(9,.str),(25,(.sl (.st SI.Rule))),(30,(.st SI.pr)),(41,(.st SI.Expr)),(43,(.st SI.gh)),(45,(.st SI.Rule)),(51,(.st SI.j7)),(54,(.sl (.st SI.mi))),(57,(.st SI.Lot)),(69,(.st SI.mi)),(82,(.st SI.i6)),(85,(.st SI.Phase)),(105,(.st SI.site)),(133,(.st SI.k7)),(156,(.st SI.Entry)),(189,(.st SI.en)),(197,(.sl (.st SI.span))),(199,(.st SI.strip)),(241,(.st SI.span)),(292,(.st SI.side))]
def an0:TypeId->Option (CT xx.ι):=lk ao5
theorem M2:eY Tryz.prog (Ro tab):=akx (by kernel_rfl)
theorem mixed:Tryz.prog.follows .mixedOrders=true:=Checked.mixed Tryz.checked
theorem cq{f:FuncId}{fn:Func}{l:List (FuncId×bz xx)}(hΓ:sC Tryz.prog (xl l))(hfn:Tryz.prog.funcs[f]? =some fn){s:bz xx}(h:Hn SI)(n:Nat)
 (hq : (fn.body.isSome && !(fn.name == "runtime.NumGoroutine") && decide (s.args.length <= fn.ntmps /\ qg s.args <= 1000 /\ (s.res.filter RT.out).length = qg s.args)) = true := by kernel_rfl) (hg : s.gen = none := by rfl)
 (hr:∀a,run (xl l) (Ro tab) an0 fn.ntmps n (fn.body.getD .skip) (sN xx s.res) h (xa s.args a) (aoW (Ro tab) fn.results.toList s.res)=s.fn a:=by intro _;kernel_rfl):AC Tryz.prog f s:=by
 rw[aK,aK]at hq;obtain⟨⟨q1,q2⟩,q3⟩:=hq;have hb:fn.body=some (fn.body.getD .skip):=by
  cases hc:fn.body with
  |none=>rw[hc]at q1;cases q1
  |some c=>rfl
 have hn : (fn.name == "runtime.NumGoroutine") = false := by simpa using q2
 exact zj (mX hfn hb hn) (λ a _ e=>aoX M2 mixed hΓ hfn hb hn _ _ (of_decide_eq_true q3) h n ((hr a).trans e)) hg
theorem ov{f:FuncId}{fn:Func}{l:List (FuncId×bz xx)}(hΓ:sC Tryz.prog (xl l))(hfn:Tryz.prog.funcs[f]? =some fn){g:cX xx}(h:Hn SI)(n:Nat)
 (hq : (fn.body.isSome && !(fn.name == "runtime.NumGoroutine") && decide (g.py.length <= fn.ntmps) && g.AK) = true)
 (hr:∀v,run (xl l) (Ro tab) an0 fn.ntmps n (fn.body.getD .skip) (VT (X:=xx) (Ac g).vars) h (E4 g v) (anX (Ro tab) fn.results.toList g)=g.fn v):AC Tryz.prog f ⟨[],[.d .bool],λ_=>none,some g⟩:=by
 rw[aK,aK,aK]at hq;obtain⟨⟨⟨q1,q2⟩,q3⟩,q4⟩:=hq;have hb:fn.body=some (fn.body.getD .skip):=by
  cases hc:fn.body with
  |none=>rw[hc]at q1;cases q1
  |some c=>rfl
 have hn : (fn.name == "runtime.NumGoroutine") = false := by simpa using q2
 exact L4 (mX hfn hb hn) (aop M2 mixed hΓ hfn hb hn g (of_decide_eq_true q3) q4 h n (λ v _ e=>(hr v).trans e))
theorem gcn:sC Tryz.prog (xl ([]:List (FuncId×bz xx))):=aB
abbrev ah:CT SI:=.int .i64
abbrev bC:CT SI:=.st SI.Def
abbrev aZ:CT SI:=.st SI.Table
abbrev bE:CT SI:=.st SI.Zone
abbrev bg:CT SI:=.st SI.Rule
abbrev bK:CT SI:=.st SI.Cap
abbrev aV:CT SI:=.st SI.gz
abbrev bH:CT SI:=.st SI.View
abbrev dG:CT SI:=.st SI.pr
abbrev ay:CT SI:=.st SI.mi
abbrev iP:CT SI:=.st SI.Lot
abbrev fe:CT SI:=.st SI.j7
abbrev aG:CT SI:=.st SI.i6
abbrev fI:CT SI:=.st SI.pP
abbrev aJ(f:Nat)(s:bz xx):Prop:=AC Tryz.prog f s
abbrev gP:=(List fA)×(List cB)×(List dO)×(List bJ)×(List fV)×(List eU)×(List bV)×Int×(List ax)×(List aH)
end Go.Proofs
