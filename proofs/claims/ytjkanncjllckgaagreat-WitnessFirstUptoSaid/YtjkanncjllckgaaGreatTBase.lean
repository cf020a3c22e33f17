import Derived.Test.YtjkanncjllckgaaGreatH1
import Derived.Test.YtjkanncjllckgaaGreatChecked
namespace Go.Proofs
open Go.Gb Go.RowKit
structure bZ where
 op:Int
 n:Int
 s:ByteArray
 key:ByteArray
 args:(List bZ)
mutual
def qO:bZ->List Tree
 |⟨f0,f1,f2,f3,f4⟩=>[.sc (.int .i64 f0),.sc (.int .i64 f1),.sc (.string f2),.sc (.string f3),.sl (sU f4)]
def sU:List bZ->List (List Tree)
 |[]=>[]
 |x::xs=>qO x::sU xs
end
theorem sV:∀l:List bZ,sU l=l.map qO
 |[]=>rfl
 |x::xs=>by rw[sU,sV xs];rfl
theorem WJ(x:bZ):qO x=[.sc (.int .i64 x.op),.sc (.int .i64 x.n),.sc (.string x.s),.sc (.string x.key),.sl (x.args.map qO)]:=by cases x;simp only[qO,sV]
structure fH where
 name:ByteArray
 io:Int
 lw:Int
 kq:ByteArray
 ia:ByteArray
 eo:(List bZ)
def Ef(x:fH):List Tree:=[.sc (.string x.name),.sc (.int .i64 x.io),.sc (.int .i64 x.lw),.sc (.string x.kq),.sc (.string x.ia),.sl (x.eo.map qO)]
structure bR where
 name:ByteArray
 n:Int
 deriving DecidableEq,Inhabited
def HY(x:bR):List Tree:=[.sc (.string x.name),.sc (.int .i64 x.n)]
structure cu where
 name:ByteArray
 rows:(List bR)
 sg:Int
 deriving DecidableEq,Inhabited
def HZ(x:cu):List Tree:=[.sc (.string x.name),.sl (x.rows.map HY),.sc (.int .i64 x.sg)]
structure dR where
 x:Int
 y:Int
 deriving DecidableEq,Inhabited
def WK(x:dR):List Tree:=[.sc (.int .i64 x.x),.sc (.int .i64 x.y)]
structure dV where
 name:ByteArray
 overlay:Bool
 corners:(List dR)
 deriving DecidableEq,Inhabited
def Nl(x:dV):List Tree:=[.sc (.string x.name),.sc (.bool x.overlay),.sl (x.corners.map WK)]
structure bX where
 name:ByteArray
 zones:(List ByteArray)
 except:(List ByteArray)
 from_:Int
 j8:Int
 yz:Int
 vary:Bool
 kind:Int
 kB:Int
 mn:Int
 mm:ByteArray
 i9:ByteArray
 fW:(List bZ)
 gR:Int
 gS:Int
 jj:Int
 jn:Int
 uses:Int
 other:Int
 n:Int
def sW(x:bX):List Tree:=[.sc (.string x.name),.sl (x.zones.map (λ y=>[.sc (.string y)])),.sl (x.except.map (λ y=>[.sc (.string y)])),.sc (.int .i64 x.from_),.sc (.int .i64 x.j8),.sc (.int .i64 x.yz),.sc (.bool x.vary),.sc (.int .i64 x.kind),.sc (.int .i64 x.kB),.sc (.int .i64 x.mn),.sc (.string x.mm),.sc (.string x.i9),.sl (x.fW.map qO),.sc (.int .i64 x.gR),.sc (.int .i64 x.gS),.sc (.int .i64 x.jj),.sc (.int .i64 x.jn),.sc (.int .i64 x.uses),.sc (.int .i64 x.other),.sc (.int .i64 x.n)]
structure fZ where
 name:ByteArray
 load:Int
 limit:Int
 corners:(List dR)
 deriving DecidableEq,Inhabited
def WL(x:fZ):List Tree:=[.sc (.string x.name),.sc (.int .i64 x.load),.sc (.int .i64 x.limit),.sl (x.corners.map WK)]
structure bT where
 x:Int
 y:Int
 z:Int
 deriving DecidableEq,Inhabited
def yu(x:bT):List Tree:=[.sc (.int .i64 x.x),.sc (.int .i64 x.y),.sc (.int .i64 x.z)]
structure eX where
 name:ByteArray
 zd:Int
 zc:Int
 y6:Int
 least:Int
 targets:(List bT)
 deriving DecidableEq,Inhabited
def Nn(x:eX):List Tree:=[.sc (.string x.name),.sc (.int .i64 x.zd),.sc (.int .i64 x.zc),.sc (.int .i64 x.y6),.sc (.int .i64 x.least),.sl (x.targets.map yu)]
structure bB where
 defs:(List fH)
 tables:(List cu)
 zones:(List dV)
 rules:(List bX)
 caps:(List fZ)
 views:(List eX)
 sm:(List bT)
 hours:Int
def Np(x:bB):List Tree:=[.sl (x.defs.map Ef),.sl (x.tables.map HZ),.sl (x.zones.map Nl),.sl (x.rules.map sW),.sl (x.caps.map WL),.sl (x.views.map Nn),.sl (x.sm.map yu),.sc (.int .i64 x.hours)]
structure ax where
 x0:Int
 y0:Int
 x1:Int
 y1:Int
 deriving DecidableEq,Inhabited
def Js(x:ax):List Tree:=[.sc (.int .i64 x.x0),.sc (.int .i64 x.y0),.sc (.int .i64 x.x1),.sc (.int .i64 x.y1)]
structure aO where
 from_:Int
 to:Int
 deriving DecidableEq,Inhabited
def ah2(x:aO):List Tree:=[.sc (.int .i64 x.from_),.sc (.int .i64 x.to)]
structure bV where
 x0:Int
 x1:Int
 column:(List aO)
 deriving DecidableEq,Inhabited
def ald(x:bV):List Tree:=[.sc (.int .i64 x.x0),.sc (.int .i64 x.x1),.sl (x.column.map ah2)]
structure bS where
 id:Int
 owner:Int
 area:(List ax)
 from_:(List Int)
 deriving DecidableEq,Inhabited
def KZ(x:bS):List Tree:=[.sc (.int .i64 x.id),.sc (.int .i64 x.owner),.sl (x.area.map Js),.sl (x.from_.map (λ y=>[.sc (.int .i64 y)]))]
structure aQ where
 lot:Int
 use:Int
 floors:Int
 d6:Int
 deriving DecidableEq,Inhabited
def ale(x:aQ):List Tree:=[.sc (.int .i64 x.lot),.sc (.int .i64 x.use),.sc (.int .i64 x.floors),.sc (.int .i64 x.d6)]
structure aH where
 bu:Int
 ca:Int
 br:Int
 b9:Int
 er:Int
 ec:Int
 use:Int
 units:Int
 extra:Bool
 deriving DecidableEq,Inhabited
def Jt(x:aH):List Tree:=[.sc (.int .i64 x.bu),.sc (.int .i64 x.ca),.sc (.int .i64 x.br),.sc (.int .i64 x.b9),.sc (.int .i64 x.er),.sc (.int .i64 x.ec),.sc (.int .i64 x.use),.sc (.int .i64 x.units),.sc (.bool x.extra)]
structure rC where
 cy:(List aH)
 gives:(List bR)
 deriving DecidableEq,Inhabited
def Nq(x:rC):List Tree:=[.sl (x.cy.map Jt),.sl (x.gives.map HY)]
structure bn where
 lot:Int
 phases:(List rC)
 deriving DecidableEq,Inhabited
def agj(x:bn):List Tree:=[.sc (.int .i64 x.lot),.sl (x.phases.map Nq)]
structure jh where
 lot:Int
 area:(List ax)
 top:Int
 deriving DecidableEq,Inhabited
def H6(x:jh):List Tree:=[.sc (.int .i64 x.lot),.sl (x.area.map Js),.sc (.int .i64 x.top)]
structure Eg where
 lot:Int
 Iv:Int
 It:Int
 Is:Int
 deriving DecidableEq,Inhabited
def PY(x:Eg):List Tree:=[.sc (.int .i64 x.lot),.sc (.int .i64 x.Iv),.sc (.int .i64 x.It),.sc (.int .i64 x.Is)]
structure iE where
 lot:Int
 eh:Int
 ee:Int
 ef:Int
 ed:Int
 ld:Int
 k9:Int
 ff:Int
 lO:Int
 lP:Bool
 deriving DecidableEq,Inhabited
def PZ(x:iE):List Tree:=[.sc (.int .i64 x.lot),.sc (.int .i64 x.eh),.sc (.int .i64 x.ee),.sc (.int .i64 x.ef),.sc (.int .i64 x.ed),.sc (.int .i64 x.ld),.sc (.int .i64 x.k9),.sc (.int .i64 x.ff),.sc (.int .i64 x.lO),.sc (.bool x.lP)]
structure bU where
 ci:(List fH)
 b8:(List cu)
 b7:(List dV)
 bj:(List bX)
 ct:(List fZ)
 cj:(List eX)
 cD:(List bT)
 cm:Int
 land:(List bS)
 bz:(List jh)
 windows:(List Eg)
 built:(List iE)
 base:(List bR)
def Ju(x:bU):List Tree:=[.sl (x.ci.map Ef),.sl (x.b8.map HZ),.sl (x.b7.map Nl),.sl (x.bj.map sW),.sl (x.ct.map WL),.sl (x.cj.map Nn),.sl (x.cD.map yu),.sc (.int .i64 x.cm),.sl (x.land.map KZ),.sl (x.bz.map H6),.sl (x.windows.map PY),.sl (x.built.map PZ),.sl (x.base.map HY)]
structure rV where
 mz:Int
 my:Int
 jt:Int
 ke:Int
 cC:Int
 cN:(List rC)
 deriving DecidableEq,Inhabited
def am1(x:rV):List Tree:=[.sc (.int .i64 x.mz),.sc (.int .i64 x.my),.sc (.int .i64 x.jt),.sc (.int .i64 x.ke),.sc (.int .i64 x.cC),.sl (x.cN.map Nq)]
structure DA where
 oB:Int
 oy:Int
 oA:Int
 ox:Int
 z0:Int
 z1:Int
 deriving DecidableEq,Inhabited
def aou(x:DA):List Tree:=[.sc (.int .i64 x.oB),.sc (.int .i64 x.oy),.sc (.int .i64 x.oA),.sc (.int .i64 x.ox),.sc (.int .i64 x.z0),.sc (.int .i64 x.z1)]
structure jA where
 ly:Int
 py:Int
 mi:Int
 t7:Int
 deriving DecidableEq,Inhabited
def am2(x:jA):List Tree:=[.sc (.int .i64 x.ly),.sc (.int .i64 x.py),.sc (.int .i64 x.mi),.sc (.int .i64 x.t7)]
structure lZ where
 fm:(List fH)
 eE:(List cu)
 eS:(List dV)
 eW:(List bX)
 fp:(List fZ)
 eV:(List eX)
 gc:(List bT)
 fc:Int
 pS:(List bS)
 j9:(List jh)
 lR:(List Eg)
 fS:(List iE)
 pT:(List bR)
 s6:Int
 mC:Int
 kh:(List ax)
 oY:(List Int)
 cC:Int
 cN:(List rC)
 cy:(List aH)
 zones:(List ByteArray)
def alf(x:lZ):List Tree:=[.sl (x.fm.map Ef),.sl (x.eE.map HZ),.sl (x.eS.map Nl),.sl (x.eW.map sW),.sl (x.fp.map WL),.sl (x.eV.map Nn),.sl (x.gc.map yu),.sc (.int .i64 x.fc),.sl (x.pS.map KZ),.sl (x.j9.map H6),.sl (x.lR.map PY),.sl (x.fS.map PZ),.sl (x.pT.map HY),.sc (.int .i64 x.s6),.sc (.int .i64 x.mC),.sl (x.kh.map Js),.sl (x.oY.map (λ y=>[.sc (.int .i64 y)])),.sc (.int .i64 x.cC),.sl (x.cN.map Nq),.sl (x.cy.map Jt),.sl (x.zones.map (λ y=>[.sc (.string y)]))]
structure alg where
 ci:(List fH)
 b8:(List cu)
 b7:(List dV)
 bj:(List bX)
 ct:(List fZ)
 cj:(List eX)
 cD:(List bT)
 cm:Int
 area:(List ax)
 cy:(List aH)
def alh(x:alg):List Tree:=[.sl (x.ci.map Ef),.sl (x.b8.map HZ),.sl (x.b7.map Nl),.sl (x.bj.map sW),.sl (x.ct.map WL),.sl (x.cj.map Nn),.sl (x.cD.map yu),.sc (.int .i64 x.cm),.sl (x.area.map Js),.sl (x.cy.map Jt)]
structure Jv where
 a0:ByteArray
 a1:ByteArray
 a2:ByteArray
 a3:ByteArray
 a4:ByteArray
 a5:ByteArray
 deriving DecidableEq,Inhabited
def ajh(x:Jv):List Tree:=[.sc (.string x.a0),.sc (.string x.a1),.sc (.string x.a2),.sc (.string x.a3),.sc (.string x.a4),.sc (.string x.a5)]
structure oN where
 defs:(List fH)
 uses:(List (List Int))
def ali(x:oN):List Tree:=[.sl (x.defs.map Ef),.sl (x.uses.map (λ y=>[.sl (y.map (λ y=>[.sc (.int .i64 y)]))]))]
structure fT where
 z0:Int
 z1:Int
 area:(List ax)
 deriving DecidableEq,Inhabited
def am3(x:fT):List Tree:=[.sc (.int .i64 x.z0),.sc (.int .i64 x.z1),.sl (x.area.map Js)]
structure dX where
 side:Int
 base:Int
 num:Int
 den:Int
 deriving DecidableEq,Inhabited
def alj(x:dX):List Tree:=[.sc (.int .i64 x.side),.sc (.int .i64 x.base),.sc (.int .i64 x.num),.sc (.int .i64 x.den)]
structure Ns where
 a0:Int
 a1:Int
 a2:Int
 a3:Int
 deriving DecidableEq,Inhabited
def aji(x:Ns):List Tree:=[.sc (.int .i64 x.a0),.sc (.int .i64 x.a1),.sc (.int .i64 x.a2),.sc (.int .i64 x.a3)]
structure lq where
 a0:Int
 a1:Int
 deriving DecidableEq,Inhabited
def ajj(x:lq):List Tree:=[.sc (.int .i64 x.a0),.sc (.int .i64 x.a1)]
inductive SI where
 |Expr
 |Def
 |Entry
 |Table
 |iu
 |Zone
 |Rule
 |Cap
 |gx
 |View
 |lE
 |mj
 |span
 |strip
 |Lot
 |kw
 |i6
 |Phase
 |dE
 |eR
 |Window
 |gb
 |pN
 |site
 |D2
 |side
 |ka
 |ry
 |mT
 |graph
 |k7
 |gh
 |m4
 |ev
 deriving DecidableEq
@[reducible] def TT:SI->Type
 | .Expr=>bZ
 | .Def=>fH
 | .Entry=>bR
 | .Table=>cu
 | .iu=>dR
 | .Zone=>dV
 | .Rule=>bX
 | .Cap=>fZ
 | .gx=>bT
 | .View=>eX
 | .lE=>bB
 | .mj=>ax
 | .span=>aO
 | .strip=>bV
 | .Lot=>bS
 | .kw=>aQ
 | .i6=>aH
 | .Phase=>rC
 | .dE=>bn
 | .eR=>jh
 | .Window=>Eg
 | .gb=>iE
 | .pN=>bU
 | .site=>rV
 | .D2=>DA
 | .side=>jA
 | .ka=>lZ
 | .ry=>alg
 | .mT=>Jv
 | .graph=>oN
 | .k7=>fT
 | .gh=>dX
 | .m4=>Ns
 | .ev=>lq
def aph:(i:SI)->TT i->List Tree
 | .Expr,x=>qO x
 | .Def,x=>Ef x
 | .Entry,x=>HY x
 | .Table,x=>HZ x
 | .iu,x=>WK x
 | .Zone,x=>Nl x
 | .Rule,x=>sW x
 | .Cap,x=>WL x
 | .gx,x=>yu x
 | .View,x=>Nn x
 | .lE,x=>Np x
 | .mj,x=>Js x
 | .span,x=>ah2 x
 | .strip,x=>ald x
 | .Lot,x=>KZ x
 | .kw,x=>ale x
 | .i6,x=>Jt x
 | .Phase,x=>Nq x
 | .dE,x=>agj x
 | .eR,x=>H6 x
 | .Window,x=>PY x
 | .gb,x=>PZ x
 | .pN,x=>Ju x
 | .site,x=>am1 x
 | .D2,x=>aou x
 | .side,x=>am2 x
 | .ka,x=>alf x
 | .ry,x=>alh x
 | .mT,x=>ajh x
 | .graph,x=>ali x
 | .k7,x=>am3 x
 | .gh,x=>alj x
 | .m4,x=>aji x
 | .ev,x=>ajj x
def se:SE:=⟨SI,inferInstance,TT,aph⟩
def T6:SI->List (CT SI)
 | .Expr=>[(.int .i64),(.int .i64),.str,.str,(.sl (.st SI.Expr))]
 | .Def=>[.str,(.int .i64),(.int .i64),.str,.str,(.sl (.st SI.Expr))]
 | .Entry=>[.str,(.int .i64)]
 | .Table=>[.str,(.sl (.st SI.Entry)),(.int .i64)]
 | .iu=>[(.int .i64),(.int .i64)]
 | .Zone=>[.str,.bool,(.sl (.st SI.iu))]
 | .Rule=>[.str,(.sl .str),(.sl .str),(.int .i64),(.int .i64),(.int .i64),.bool,(.int .i64),(.int .i64),(.int .i64),.str,.str,(.sl (.st SI.Expr)),(.int .i64),(.int .i64),(.int .i64),(.int .i64),(.int .i64),(.int .i64),(.int .i64)]
 | .Cap=>[.str,(.int .i64),(.int .i64),(.sl (.st SI.iu))]
 | .gx=>[(.int .i64),(.int .i64),(.int .i64)]
 | .View=>[.str,(.int .i64),(.int .i64),(.int .i64),(.int .i64),(.sl (.st SI.gx))]
 | .lE=>[(.sl (.st SI.Def)),(.sl (.st SI.Table)),(.sl (.st SI.Zone)),(.sl (.st SI.Rule)),(.sl (.st SI.Cap)),(.sl (.st SI.View)),(.sl (.st SI.gx)),(.int .i64)]
 | .mj=>[(.int .i64),(.int .i64),(.int .i64),(.int .i64)]
 | .span=>[(.int .i64),(.int .i64)]
 | .strip=>[(.int .i64),(.int .i64),(.sl (.st SI.span))]
 | .Lot=>[(.int .i64),(.int .i64),(.sl (.st SI.mj)),(.sl (.int .i64))]
 | .kw=>[(.int .i64),(.int .i64),(.int .i64),(.int .i64)]
 | .i6=>[(.int .i64),(.int .i64),(.int .i64),(.int .i64),(.int .i64),(.int .i64),(.int .i64),(.int .i64),.bool]
 | .Phase=>[(.sl (.st SI.i6)),(.sl (.st SI.Entry))]
 | .dE=>[(.int .i64),(.sl (.st SI.Phase))]
 | .eR=>[(.int .i64),(.sl (.st SI.mj)),(.int .i64)]
 | .Window=>[(.int .i64),(.int .i64),(.int .i64),(.int .i64)]
 | .gb=>[(.int .i64),(.int .i64),(.int .i64),(.int .i64),(.int .i64),(.int .i64),(.int .i64),(.int .i64),(.int .i64),.bool]
 | .pN=>[(.sl (.st SI.Def)),(.sl (.st SI.Table)),(.sl (.st SI.Zone)),(.sl (.st SI.Rule)),(.sl (.st SI.Cap)),(.sl (.st SI.View)),(.sl (.st SI.gx)),(.int .i64),(.sl (.st SI.Lot)),(.sl (.st SI.eR)),(.sl (.st SI.Window)),(.sl (.st SI.gb)),(.sl (.st SI.Entry))]
 | .site=>[(.int .i64),(.int .i64),(.int .i64),(.int .i64),(.int .i64),(.sl (.st SI.Phase))]
 | .D2=>[(.int .i64),(.int .i64),(.int .i64),(.int .i64),(.int .i64),(.int .i64)]
 | .side=>[(.int .i64),(.int .i64),(.int .i64),(.int .i64)]
 | .ka=>[(.sl (.st SI.Def)),(.sl (.st SI.Table)),(.sl (.st SI.Zone)),(.sl (.st SI.Rule)),(.sl (.st SI.Cap)),(.sl (.st SI.View)),(.sl (.st SI.gx)),(.int .i64),(.sl (.st SI.Lot)),(.sl (.st SI.eR)),(.sl (.st SI.Window)),(.sl (.st SI.gb)),(.sl (.st SI.Entry)),(.int .i64),(.int .i64),(.sl (.st SI.mj)),(.sl (.int .i64)),(.int .i64),(.sl (.st SI.Phase)),(.sl (.st SI.i6)),(.sl .str)]
 | .ry=>[(.sl (.st SI.Def)),(.sl (.st SI.Table)),(.sl (.st SI.Zone)),(.sl (.st SI.Rule)),(.sl (.st SI.Cap)),(.sl (.st SI.View)),(.sl (.st SI.gx)),(.int .i64),(.sl (.st SI.mj)),(.sl (.st SI.i6))]
 | .mT=>[.str,.str,.str,.str,.str,.str]
 | .graph=>[(.sl (.st SI.Def)),(.sl (.sl (.int .i64)))]
 | .k7=>[(.int .i64),(.int .i64),(.sl (.st SI.mj))]
 | .gh=>[(.int .i64),(.int .i64),(.int .i64),(.int .i64)]
 | .m4=>[(.int .i64),(.int .i64),(.int .i64),(.int .i64)]
 | .ev=>[(.int .i64),(.int .i64)]
def apj:(i:SI)->TT i->HL se (T6 i)
 | .Expr,x=>(x.op,x.n,x.s,x.key,x.args,())
 | .Def,x=>(x.name,x.io,x.lw,x.kq,x.ia,x.eo,())
 | .Entry,x=>(x.name,x.n,())
 | .Table,x=>(x.name,x.rows,x.sg,())
 | .iu,x=>(x.x,x.y,())
 | .Zone,x=>(x.name,x.overlay,x.corners,())
 | .Rule,x=>(x.name,x.zones,x.except,x.from_,x.j8,x.yz,x.vary,x.kind,x.kB,x.mn,x.mm,x.i9,x.fW,x.gR,x.gS,x.jj,x.jn,x.uses,x.other,x.n,())
 | .Cap,x=>(x.name,x.load,x.limit,x.corners,())
 | .gx,x=>(x.x,x.y,x.z,())
 | .View,x=>(x.name,x.zd,x.zc,x.y6,x.least,x.targets,())
 | .lE,x=>(x.defs,x.tables,x.zones,x.rules,x.caps,x.views,x.sm,x.hours,())
 | .mj,x=>(x.x0,x.y0,x.x1,x.y1,())
 | .span,x=>(x.from_,x.to,())
 | .strip,x=>(x.x0,x.x1,x.column,())
 | .Lot,x=>(x.id,x.owner,x.area,x.from_,())
 | .kw,x=>(x.lot,x.use,x.floors,x.d6,())
 | .i6,x=>(x.bu,x.ca,x.br,x.b9,x.er,x.ec,x.use,x.units,x.extra,())
 | .Phase,x=>(x.cy,x.gives,())
 | .dE,x=>(x.lot,x.phases,())
 | .eR,x=>(x.lot,x.area,x.top,())
 | .Window,x=>(x.lot,x.Iv,x.It,x.Is,())
 | .gb,x=>(x.lot,x.eh,x.ee,x.ef,x.ed,x.ld,x.k9,x.ff,x.lO,x.lP,())
 | .pN,x=>(x.ci,x.b8,x.b7,x.bj,x.ct,x.cj,x.cD,x.cm,x.land,x.bz,x.windows,x.built,x.base,())
 | .site,x=>(x.mz,x.my,x.jt,x.ke,x.cC,x.cN,())
 | .D2,x=>(x.oB,x.oy,x.oA,x.ox,x.z0,x.z1,())
 | .side,x=>(x.ly,x.py,x.mi,x.t7,())
 | .ka,x=>(x.fm,x.eE,x.eS,x.eW,x.fp,x.eV,x.gc,x.fc,x.pS,x.j9,x.lR,x.fS,x.pT,x.s6,x.mC,x.kh,x.oY,x.cC,x.cN,x.cy,x.zones,())
 | .ry,x=>(x.ci,x.b8,x.b7,x.bj,x.ct,x.cj,x.cD,x.cm,x.area,x.cy,())
 | .mT,x=>(x.a0,x.a1,x.a2,x.a3,x.a4,x.a5,())
 | .graph,x=>(x.defs,x.uses,())
 | .k7,x=>(x.z0,x.z1,x.area,())
 | .gh,x=>(x.side,x.base,x.num,x.den,())
 | .m4,x=>(x.a0,x.a1,x.a2,x.a3,())
 | .ev,x=>(x.a0,x.a1,())
def aoZ:(i:SI)->HL se (T6 i)->TT i
 | .Expr,h=>⟨h.1,h.2.1,h.2.2.1,h.2.2.2.1,h.2.2.2.2.1⟩
 | .Def,h=>⟨h.1,h.2.1,h.2.2.1,h.2.2.2.1,h.2.2.2.2.1,h.2.2.2.2.2.1⟩
 | .Entry,h=>⟨h.1,h.2.1⟩
 | .Table,h=>⟨h.1,h.2.1,h.2.2.1⟩
 | .iu,h=>⟨h.1,h.2.1⟩
 | .Zone,h=>⟨h.1,h.2.1,h.2.2.1⟩
 | .Rule,h=>⟨h.1,h.2.1,h.2.2.1,h.2.2.2.1,h.2.2.2.2.1,h.2.2.2.2.2.1,h.2.2.2.2.2.2.1,h.2.2.2.2.2.2.2.1,h.2.2.2.2.2.2.2.2.1,h.2.2.2.2.2.2.2.2.2.1,h.2.2.2.2.2.2.2.2.2.2.1,h.2.2.2.2.2.2.2.2.2.2.2.1,h.2.2.2.2.2.2.2.2.2.2.2.2.1,h.2.2.2.2.2.2.2.2.2.2.2.2.2.1,h.2.2.2.2.2.2.2.2.2.2.2.2.2.2.1,h.2.2.2.2.2.2.2.2.2.2.2.2.2.2.2.1,h.2.2.2.2.2.2.2.2.2.2.2.2.2.2.2.2.1,h.2.2.2.2.2.2.2.2.2.2.2.2.2.2.2.2.2.1,h.2.2.2.2.2.2.2.2.2.2.2.2.2.2.2.2.2.2.1,h.2.2.2.2.2.2.2.2.2.2.2.2.2.2.2.2.2.2.2.1⟩
 | .Cap,h=>⟨h.1,h.2.1,h.2.2.1,h.2.2.2.1⟩
 | .gx,h=>⟨h.1,h.2.1,h.2.2.1⟩
 | .View,h=>⟨h.1,h.2.1,h.2.2.1,h.2.2.2.1,h.2.2.2.2.1,h.2.2.2.2.2.1⟩
 | .lE,h=>⟨h.1,h.2.1,h.2.2.1,h.2.2.2.1,h.2.2.2.2.1,h.2.2.2.2.2.1,h.2.2.2.2.2.2.1,h.2.2.2.2.2.2.2.1⟩
 | .mj,h=>⟨h.1,h.2.1,h.2.2.1,h.2.2.2.1⟩
 | .span,h=>⟨h.1,h.2.1⟩
 | .strip,h=>⟨h.1,h.2.1,h.2.2.1⟩
 | .Lot,h=>⟨h.1,h.2.1,h.2.2.1,h.2.2.2.1⟩
 | .kw,h=>⟨h.1,h.2.1,h.2.2.1,h.2.2.2.1⟩
 | .i6,h=>⟨h.1,h.2.1,h.2.2.1,h.2.2.2.1,h.2.2.2.2.1,h.2.2.2.2.2.1,h.2.2.2.2.2.2.1,h.2.2.2.2.2.2.2.1,h.2.2.2.2.2.2.2.2.1⟩
 | .Phase,h=>⟨h.1,h.2.1⟩
 | .dE,h=>⟨h.1,h.2.1⟩
 | .eR,h=>⟨h.1,h.2.1,h.2.2.1⟩
 | .Window,h=>⟨h.1,h.2.1,h.2.2.1,h.2.2.2.1⟩
 | .gb,h=>⟨h.1,h.2.1,h.2.2.1,h.2.2.2.1,h.2.2.2.2.1,h.2.2.2.2.2.1,h.2.2.2.2.2.2.1,h.2.2.2.2.2.2.2.1,h.2.2.2.2.2.2.2.2.1,h.2.2.2.2.2.2.2.2.2.1⟩
 | .pN,h=>⟨h.1,h.2.1,h.2.2.1,h.2.2.2.1,h.2.2.2.2.1,h.2.2.2.2.2.1,h.2.2.2.2.2.2.1,h.2.2.2.2.2.2.2.1,h.2.2.2.2.2.2.2.2.1,h.2.2.2.2.2.2.2.2.2.1,h.2.2.2.2.2.2.2.2.2.2.1,h.2.2.2.2.2.2.2.2.2.2.2.1,h.2.2.2.2.2.2.2.2.2.2.2.2.1⟩
 | .site,h=>⟨h.1,h.2.1,h.2.2.1,h.2.2.2.1,h.2.2.2.2.1,h.2.2.2.2.2.1⟩
 | .D2,h=>⟨h.1,h.2.1,h.2.2.1,h.2.2.2.1,h.2.2.2.2.1,h.2.2.2.2.2.1⟩
 | .side,h=>⟨h.1,h.2.1,h.2.2.1,h.2.2.2.1⟩
 | .ka,h=>⟨h.1,h.2.1,h.2.2.1,h.2.2.2.1,h.2.2.2.2.1,h.2.2.2.2.2.1,h.2.2.2.2.2.2.1,h.2.2.2.2.2.2.2.1,h.2.2.2.2.2.2.2.2.1,h.2.2.2.2.2.2.2.2.2.1,h.2.2.2.2.2.2.2.2.2.2.1,h.2.2.2.2.2.2.2.2.2.2.2.1,h.2.2.2.2.2.2.2.2.2.2.2.2.1,h.2.2.2.2.2.2.2.2.2.2.2.2.2.1,h.2.2.2.2.2.2.2.2.2.2.2.2.2.2.1,h.2.2.2.2.2.2.2.2.2.2.2.2.2.2.2.1,h.2.2.2.2.2.2.2.2.2.2.2.2.2.2.2.2.1,h.2.2.2.2.2.2.2.2.2.2.2.2.2.2.2.2.2.1,h.2.2.2.2.2.2.2.2.2.2.2.2.2.2.2.2.2.2.1,h.2.2.2.2.2.2.2.2.2.2.2.2.2.2.2.2.2.2.2.1,h.2.2.2.2.2.2.2.2.2.2.2.2.2.2.2.2.2.2.2.2.1⟩
 | .ry,h=>⟨h.1,h.2.1,h.2.2.1,h.2.2.2.1,h.2.2.2.2.1,h.2.2.2.2.2.1,h.2.2.2.2.2.2.1,h.2.2.2.2.2.2.2.1,h.2.2.2.2.2.2.2.2.1,h.2.2.2.2.2.2.2.2.2.1⟩
 | .mT,h=>⟨h.1,h.2.1,h.2.2.1,h.2.2.2.1,h.2.2.2.2.1,h.2.2.2.2.2.1⟩
 | .graph,h=>⟨h.1,h.2.1⟩
 | .k7,h=>⟨h.1,h.2.1,h.2.2.1⟩
 | .gh,h=>⟨h.1,h.2.1,h.2.2.1,h.2.2.2.1⟩
 | .m4,h=>⟨h.1,h.2.1,h.2.2.1,h.2.2.2.1⟩
 | .ev,h=>⟨h.1,h.2.1⟩
def gvS:Nat->Option ((c:CT SI)×CT.T se c):=λ_=>none
def xx:SX:={ toSE:=se,cQ:=T6,get:=apj,make:=aoZ,l4:=by intro i x;cases i<;>first |rfl |exact WJ _,gd:=by intro i h;cases i<;>first |rfl |exact WJ _,flat:=by intro i;cases i<;>rfl,gv:=gvS,yy:=λ_=>rfl }
abbrev c9:Value:=.slice none 0 0
abbrev c8:Value:=.int .i64 0
abbrev GO:Value:=.bool false
abbrev lL:Value:=.string ⟨#[]⟩
def tab:List (TypeId×nf):=[
 (2,⟨1,8,false,[c8],.int .i64,[]⟩),
 (3,⟨1,8,false,[c8],.int .i64,[]⟩),
 (4,⟨1,1,false,[GO],.bool,[]⟩),
 (9,⟨1,16,false,[lL],.str,[]⟩),
 (22,⟨1,24,false,[c9],.slice 113,[]⟩),
 (23,⟨1,24,false,[c9],.slice 115,[]⟩),
 (24,⟨1,24,false,[c9],.slice 118,[]⟩),
 (25,⟨1,24,false,[c9],.slice 87,[]⟩),
 (26,⟨1,24,false,[c9],.slice 120,[]⟩),
 (27,⟨1,24,false,[c9],.slice 388,[]⟩),
 (28,⟨1,24,false,[c9],.slice 386,[]⟩),
 (30,⟨8,176,true,[c9,c9,c9,c9,c9,c9,c9,c8],.struct [(0,22),(1,23),(2,24),(3,25),(4,26),(5,27),(6,28),(7,3)],[]⟩),
 (31,⟨1,24,false,[c9],.slice 54,[]⟩),
 (32,⟨1,24,false,[c9],.slice 95,[]⟩),
 (33,⟨1,24,false,[c9],.slice 390,[]⟩),
 (34,⟨1,24,false,[c9],.slice 233,[]⟩),
 (35,⟨1,24,false,[c9],.slice 209,[]⟩),
 (37,⟨13,296,true,[c9,c9,c9,c9,c9,c9,c9,c8,c9,c9,c9,c9,c9],.struct [(0,30),(8,31),(9,32),(10,33),(11,34),(12,35)],[]⟩),
 (40,⟨1,24,false,[c9],.slice 30,[]⟩),
 (42,⟨4,32,true,[c8,c8,c8,c8],.struct [(0,3),(1,3),(2,3),(3,3)],[0,0,0,0]⟩),
 (46,⟨1,24,false,[c9],.slice 42,[]⟩),
 (50,⟨4,32,true,[c8,c8,c8,c8],.struct [(0,3),(1,3),(2,3),(3,3)],[0,0,0,0]⟩),
 (51,⟨1,24,false,[c9],.slice 50,[]⟩),
 (52,⟨1,24,false,[c9],.slice 3,[]⟩),
 (54,⟨4,64,true,[c8,c8,c9,c9],.struct [(0,3),(1,3),(2,51),(3,52)],[]⟩),
 (57,⟨1,24,false,[c9],.slice 4,[]⟩),
 (62,⟨1,8,false,[.map none],.map 67 3,[]⟩),
 (63,⟨1,8,false,[.map none],.map 3 4,[]⟩),
 (67,⟨2,16,true,[c8,c8],.arr 2 3,[]⟩),
 (68,⟨1,8,false,[.nilFunc],.other,[]⟩),
 (73,⟨1,24,false,[c9],.slice 143,[]⟩),
 (75,⟨2,32,true,[c8,c9],.struct [(0,3),(1,73)],[]⟩),
 (80,⟨1,24,false,[c9],.slice 82,[]⟩),
 (82,⟨5,72,true,[c8,c8,lL,lL,c9],.struct [(0,3),(1,3),(2,9),(3,9),(4,80)],[]⟩),
 (83,⟨1,24,false,[c9],.slice 9,[]⟩),
 (85,⟨4,32,true,[c8,c8,c8,c8],.struct [(0,3),(1,3),(2,3),(3,3)],[0,0,0,0]⟩),
 (87,⟨20,232,true,[lL,c9,c9,c8,c8,c8,GO,c8,c8,c8,lL,lL,c9,c8,c8,c8,c8,c8,c8,c8],.struct [(0,9),(1,83),(2,83),(3,3),(4,3),(5,3),(6,4),(7,3),(8,82),(13,85),(17,3),(18,3),(19,3)],[]⟩),
 (88,⟨1,24,false,[c9],.slice 91,[]⟩),
 (91,⟨6,64,true,[c8,c8,c8,c8,c8,c9],.struct [(0,42),(4,75)],[]⟩),
 (95,⟨3,40,true,[c8,c9,c8],.struct [(0,3),(1,51),(2,3)],[]⟩),
 (105,⟨1,8,false,[.int .u64 0],.int .u64,[]⟩),
 (113,⟨6,88,true,[lL,c8,c8,lL,lL,c9],.struct [(0,9),(1,82)],[]⟩),
 (115,⟨3,48,true,[lL,c9,c8],.struct [(0,9),(1,35),(2,3)],[]⟩),
 (116,⟨1,24,false,[c9],.slice 253,[]⟩),
 (118,⟨3,48,true,[lL,GO,c9],.struct [(0,9),(1,4),(2,116)],[]⟩),
 (120,⟨4,56,true,[lL,c8,c8,c9],.struct [(0,9),(1,3),(2,3),(3,116)],[]⟩),
 (138,⟨6,48,true,[c8,c8,c8,c8,c8,c8],.struct [(0,50),(4,3),(5,3)],[]⟩),
 (140,⟨9,72,true,[c8,c8,c8,c8,c8,c8,c8,c8,GO],.struct [(0,138),(6,3),(7,3),(8,4)],[]⟩),
 (141,⟨1,24,false,[c9],.slice 140,[]⟩),
 (143,⟨2,48,true,[c9,c9],.struct [(0,141),(1,35)],[]⟩),
 (145,⟨21,440,true,[c9,c9,c9,c9,c9,c9,c9,c8,c9,c9,c9,c9,c9,c8,c8,c9,c9,c8,c9,c9,c9],.struct [(0,37),(13,54),(17,75),(19,141),(20,83)],[]⟩),
 (154,⟨1,24,false,[c9],.slice 189,[]⟩),
 (159,⟨1,24,false,[c9],.slice 163,[]⟩),
 (161,⟨1,24,false,[c9],.slice 198,[]⟩),
 (163,⟨3,40,true,[c8,c8,c9],.struct [(0,3),(1,3),(2,161)],[]⟩),
 (183,⟨1,24,false,[c9],.slice 85,[]⟩),
 (189,⟨3,40,true,[c8,c8,c9],.struct [(0,3),(1,3),(2,51)],[]⟩),
 (191,⟨1,24,false,[c9],.slice 51,[]⟩),
 (198,⟨2,16,true,[c8,c8],.struct [(0,3),(1,3)],[0,0]⟩),
 (209,⟨2,24,true,[lL,c8],.struct [(0,9),(1,3)],[2,0]⟩),
 (216,⟨1,8,false,[.map none],.map 9 3,[]⟩),
 (218,⟨10,208,true,[c9,c9,c9,c9,c9,c9,c9,c8,.map none,c9],.struct [(0,30),(8,216),(9,83)],[]⟩),
 (221,⟨1,8,false,[.pointer none],.other,[]⟩),
 (223,⟨10,224,true,[c9,c9,c9,c9,c9,c9,c9,c8,c9,c9],.struct [(0,30),(8,51),(9,141)],[]⟩),
 (225,⟨1,8,false,[.nilFunc],.other,[]⟩),
 (227,⟨2,24,true,[lL,.nilFunc],.struct [(0,9),(1,225)],[]⟩),
 (228,⟨18,216,true,[lL,.nilFunc,lL,.nilFunc,lL,.nilFunc,lL,.nilFunc,lL,.nilFunc,lL,.nilFunc,lL,.nilFunc,lL,.nilFunc,lL,.nilFunc],.arr 9 227,[]⟩),
 (233,⟨10,80,true,[c8,c8,c8,c8,c8,c8,c8,c8,c8,GO],.struct [(0,3),(1,140)],[]⟩),
 (244,⟨1,24,false,[c9],.slice 161,[]⟩),
 (250,⟨1,8,false,[.map none],.map 9 4,[]⟩),
 (253,⟨2,16,true,[c8,c8],.struct [(0,3),(1,3)],[0,0]⟩),
 (301,⟨4,32,true,[c8,c8,c8,c8],.arr 4 3,[]⟩),
 (314,⟨1,24,false,[c9],.slice 317,[]⟩),
 (317,⟨4,32,true,[c8,c8,c8,c8],.struct [(0,253),(2,253)],[]⟩),
 (318,⟨1,24,false,[c9],.slice 52,[]⟩),
 (320,⟨2,48,true,[c9,c9],.struct [(0,22),(1,318)],[]⟩),
 (330,⟨6,96,true,[lL,lL,lL,lL,lL,lL],.arr 6 9,[]⟩),
 (386,⟨3,24,true,[c8,c8,c8],.struct [(0,3),(1,3),(2,3)],[0,0,0]⟩),
 (388,⟨6,72,true,[lL,c8,c8,c8,c8,c9],.struct [(0,9),(1,386),(4,3),(5,28)],[]⟩),
 (390,⟨4,32,true,[c8,c8,c8,c8],.struct [(0,3),(1,386)],[]⟩)]
def ao0:List (TypeId×CT SI):=[(3,(.int .i64)),(4,.bool),(9,.str),(30,(.st SI.lE)),(42,(.st SI.kw)),(50,(.st SI.mj)),(51,(.sl (.st SI.mj))),(54,(.st SI.Lot)),(67,(.st SI.ev)),(82,(.st SI.Expr)),(85,(.st SI.gh)),(87,(.st SI.Rule)),(91,(.st SI.site)),(140,(.st SI.i6)),(143,(.st SI.Phase)),(161,(.sl (.st SI.span))),(163,(.st SI.strip)),(189,(.st SI.k7)),(198,(.st SI.span)),(209,(.st SI.Entry)),(317,(.st SI.side))]
def anW:TypeId->Option (CT xx.ι):=lk ao0
theorem N4:eZ Tryz.prog (Rj tab):=ako (by kernel_rfl)
theorem mixed:Tryz.prog.follows .mixedOrders=true:=Checked.mixed Tryz.checked
theorem cq{f:FuncId}{fn:Func}{l:List (FuncId×bx xx)}(hΓ:sC Tryz.prog (xj l))(hfn:Tryz.prog.funcs[f]? =some fn){s:bx xx}(h:Hn SI)(n:Nat)
 (hq : (fn.body.isSome && !(fn.name == "runtime.NumGoroutine") && decide (s.args.length <= fn.ntmps /\ qa s.args <= 1000 /\ (s.res.filter RT.out).length = qa s.args)) = true := by kernel_rfl) (hg : s.gen = none := by rfl)
 (hr:∀a,run (xj l) (Rj tab) anW fn.ntmps n (fn.body.getD .skip) (sH xx s.res) h (wA s.args a) (aoR (Rj tab) fn.results.toList s.res)=s.fn a:=by intro _;kernel_rfl):AE Tryz.prog f s:=by
 rw[aL,aL]at hq;obtain⟨⟨q1,q2⟩,q3⟩:=hq;have hb:fn.body=some (fn.body.getD .skip):=by
  cases hc:fn.body with
  |none=>rw[hc]at q1;cases q1
  |some c=>rfl
 have hn : (fn.name == "runtime.NumGoroutine") = false := by simpa using q2
 exact zp (mW hfn hb hn) (λ a _ e=>aoS N4 mixed hΓ hfn hb hn _ _ (of_decide_eq_true q3) h n ((hr a).trans e)) hg
theorem ov{f:FuncId}{fn:Func}{l:List (FuncId×bx xx)}(hΓ:sC Tryz.prog (xj l))(hfn:Tryz.prog.funcs[f]? =some fn){g:cX xx}(h:Hn SI)(n:Nat)
 (hq : (fn.body.isSome && !(fn.name == "runtime.NumGoroutine") && decide (g.px.length <= fn.ntmps) && g.AN) = true)
 (hr:∀v,run (xj l) (Rj tab) anW fn.ntmps n (fn.body.getD .skip) (VT (X:=xx) (z8 g).vars) h (FG g v) (anT (Rj tab) fn.results.toList g)=g.fn v):AE Tryz.prog f ⟨[],[.d .bool],λ_=>none,some g⟩:=by
 rw[aL,aL,aL]at hq;obtain⟨⟨⟨q1,q2⟩,q3⟩,q4⟩:=hq;have hb:fn.body=some (fn.body.getD .skip):=by
  cases hc:fn.body with
  |none=>rw[hc]at q1;cases q1
  |some c=>rfl
 have hn : (fn.name == "runtime.NumGoroutine") = false := by simpa using q2
 exact Mn (mW hfn hb hn) (aok N4 mixed hΓ hfn hb hn g (of_decide_eq_true q3) q4 h n (λ v _ e=>(hr v).trans e))
theorem gcn:sC Tryz.prog (xj ([]:List (FuncId×bx xx))):=aB
abbrev ah:CT SI:=.int .i64
abbrev bC:CT SI:=.st SI.Def
abbrev aZ:CT SI:=.st SI.Table
abbrev bE:CT SI:=.st SI.Zone
abbrev bg:CT SI:=.st SI.Rule
abbrev bJ:CT SI:=.st SI.Cap
abbrev aU:CT SI:=.st SI.gx
abbrev bH:CT SI:=.st SI.View
abbrev dD:CT SI:=.st SI.lE
abbrev ay:CT SI:=.st SI.mj
abbrev iQ:CT SI:=.st SI.Lot
abbrev fq:CT SI:=.st SI.kw
abbrev aG:CT SI:=.st SI.i6
abbrev fJ:CT SI:=.st SI.pN
abbrev aJ(f:Nat)(s:bx xx):Prop:=AE Tryz.prog f s
abbrev gP:=(List fH)×(List cu)×(List dV)×(List bX)×(List fZ)×(List eX)×(List bT)×Int×(List ax)×(List aH)
end Go.Proofs
