import Derived.Test.YtdpcmnckfpgejaaGreatH1
import Derived.Test.YtdpcmnckfpgejaaGreatChecked
namespace Go.Proofs
open Go.Gb Go.RowKit
structure bK where
 op:Int
 n:Int
 s:ByteArray
 key:ByteArray
 args:(List bK)
mutual
def rW:bK->List Tree
 |⟨f0,f1,f2,f3,f4⟩=>[.sc (.int .i64 f0),.sc (.int .i64 f1),.sc (.string f2),.sc (.string f3),.sl (uD f4)]
def uD:List bK->List (List Tree)
 |[]=>[]
 |x::xs=>rW x::uD xs
end
theorem uE:∀l:List bK,uD l=l.map rW
 |[]=>rfl
 |x::xs=>by rw[uD,uE xs];rfl
theorem XR(x:bK):rW x=[.sc (.int .i64 x.op),.sc (.int .i64 x.n),.sc (.string x.s),.sc (.string x.key),.sl (x.args.map rW)]:=by cases x;simp only[rW,uE]
structure ay where
 x0:Int
 y0:Int
 x1:Int
 y1:Int
 deriving DecidableEq,Inhabited
def LB(x:ay):List Tree:=[.sc (.int .i64 x.x0),.sc (.int .i64 x.y0),.sc (.int .i64 x.x1),.sc (.int .i64 x.y1)]
structure gZ where
 id:Int
 owner:Int
 area:(List ay)
 from_:(List Int)
 deriving DecidableEq,Inhabited
def Ny(x:gZ):List Tree:=[.sc (.int .i64 x.id),.sc (.int .i64 x.owner),.sl (x.area.map LB),.sl (x.from_.map (λ y=>[.sc (.int .i64 y)]))]
structure aF where
 bz:Int
 cj:Int
 bx:Int
 ci:Int
 ek:Int
 dE:Int
 use:Int
 units:Int
 extra:Bool
 deriving DecidableEq,Inhabited
def LC(x:aF):List Tree:=[.sc (.int .i64 x.bz),.sc (.int .i64 x.cj),.sc (.int .i64 x.bx),.sc (.int .i64 x.ci),.sc (.int .i64 x.ek),.sc (.int .i64 x.dE),.sc (.int .i64 x.use),.sc (.int .i64 x.units),.sc (.bool x.extra)]
structure bP where
 name:ByteArray
 n:Int
 deriving DecidableEq,Inhabited
def Kq(x:bP):List Tree:=[.sc (.string x.name),.sc (.int .i64 x.n)]
structure iH where
 cx:(List aF)
 gives:(List bP)
 deriving DecidableEq,Inhabited
def XT(x:iH):List Tree:=[.sl (x.cx.map LC),.sl (x.gives.map Kq)]
structure aV where
 lot:Int
 phases:(List iH)
 deriving DecidableEq,Inhabited
def agJ(x:aV):List Tree:=[.sc (.int .i64 x.lot),.sl (x.phases.map XT)]
structure BY where
 ov:Int
 oe:Int
 ot:Int
 oc:Int
 z0:Int
 z1:Int
 deriving DecidableEq,Inhabited
def anC(x:BY):List Tree:=[.sc (.int .i64 x.ov),.sc (.int .i64 x.oe),.sc (.int .i64 x.ot),.sc (.int .i64 x.oc),.sc (.int .i64 x.z0),.sc (.int .i64 x.z1)]
structure aD where
 from_:Int
 to:Int
 deriving DecidableEq,Inhabited
def ah7(x:aD):List Tree:=[.sc (.int .i64 x.from_),.sc (.int .i64 x.to)]
structure bQ where
 x0:Int
 x1:Int
 column:(List aD)
 deriving DecidableEq,Inhabited
def akV(x:bQ):List Tree:=[.sc (.int .i64 x.x0),.sc (.int .i64 x.x1),.sl (x.column.map ah7)]
structure dJ where
 x:Int
 y:Int
 deriving DecidableEq,Inhabited
def XU(x:dJ):List Tree:=[.sc (.int .i64 x.x),.sc (.int .i64 x.y)]
structure ig where
 name:ByteArray
 load:Int
 limit:Int
 corners:(List dJ)
 deriving DecidableEq,Inhabited
def XV(x:ig):List Tree:=[.sc (.string x.name),.sc (.int .i64 x.load),.sc (.int .i64 x.limit),.sl (x.corners.map XU)]
structure fJ where
 name:ByteArray
 iu:Int
 lz:Int
 kh:ByteArray
 io:ByteArray
 er:(List bK)
def GU(x:fJ):List Tree:=[.sc (.string x.name),.sc (.int .i64 x.iu),.sc (.int .i64 x.lz),.sc (.string x.kh),.sc (.string x.io),.sl (x.er.map rW)]
structure bX where
 name:ByteArray
 rows:(List bP)
 rk:Int
 deriving DecidableEq,Inhabited
def Kr(x:bX):List Tree:=[.sc (.string x.name),.sl (x.rows.map Kq),.sc (.int .i64 x.rk)]
structure dY where
 name:ByteArray
 overlay:Bool
 corners:(List dJ)
 deriving DecidableEq,Inhabited
def Pg(x:dY):List Tree:=[.sc (.string x.name),.sc (.bool x.overlay),.sl (x.corners.map XU)]
structure aP where
 name:ByteArray
 zones:(List ByteArray)
 except:(List ByteArray)
 from_:Int
 j7:Int
 wy:Int
 vary:Bool
 kind:Int
 kA:Int
 mm:Int
 ml:ByteArray
 i7:ByteArray
 fW:(List bK)
 ii:Int
 ij:Int
 i9:Int
 jj:Int
 uses:Int
 other:Int
 n:Int
def zh(x:aP):List Tree:=[.sc (.string x.name),.sl (x.zones.map (λ y=>[.sc (.string y)])),.sl (x.except.map (λ y=>[.sc (.string y)])),.sc (.int .i64 x.from_),.sc (.int .i64 x.j7),.sc (.int .i64 x.wy),.sc (.bool x.vary),.sc (.int .i64 x.kind),.sc (.int .i64 x.kA),.sc (.int .i64 x.mm),.sc (.string x.ml),.sc (.string x.i7),.sl (x.fW.map rW),.sc (.int .i64 x.ii),.sc (.int .i64 x.ij),.sc (.int .i64 x.i9),.sc (.int .i64 x.jj),.sc (.int .i64 x.uses),.sc (.int .i64 x.other),.sc (.int .i64 x.n)]
structure bU where
 x:Int
 y:Int
 z:Int
 deriving DecidableEq,Inhabited
def zZ(x:bU):List Tree:=[.sc (.int .i64 x.x),.sc (.int .i64 x.y),.sc (.int .i64 x.z)]
structure fH where
 name:ByteArray
 xe:Int
 xd:Int
 xc:Int
 least:Int
 targets:(List bU)
 deriving DecidableEq,Inhabited
def Ph(x:fH):List Tree:=[.sc (.string x.name),.sc (.int .i64 x.xe),.sc (.int .i64 x.xd),.sc (.int .i64 x.xc),.sc (.int .i64 x.least),.sl (x.targets.map zZ)]
structure cK where
 defs:(List fJ)
 tables:(List bX)
 zones:(List dY)
 rules:(List aP)
 caps:(List ig)
 views:(List fH)
 nt:(List bU)
 hours:Int
def amg(x:cK):List Tree:=[.sl (x.defs.map GU),.sl (x.tables.map Kr),.sl (x.zones.map Pg),.sl (x.rules.map zh),.sl (x.caps.map XV),.sl (x.views.map Ph),.sl (x.nt.map zZ),.sc (.int .i64 x.hours)]
structure jE where
 lE:Int
 pp:Int
 me:Int
 tp:Int
 deriving DecidableEq,Inhabited
def amh(x:jE):List Tree:=[.sc (.int .i64 x.lE),.sc (.int .i64 x.pp),.sc (.int .i64 x.me),.sc (.int .i64 x.tp)]
structure j4 where
 lot:Int
 area:(List ay)
 top:Int
 deriving DecidableEq,Inhabited
def Kt(x:j4):List Tree:=[.sc (.int .i64 x.lot),.sl (x.area.map LB),.sc (.int .i64 x.top)]
structure Vr where
 lot:Int
 HE:Int
 HD:Int
 HC:Int
 deriving DecidableEq,Inhabited
def Rx(x:Vr):List Tree:=[.sc (.int .i64 x.lot),.sc (.int .i64 x.HE),.sc (.int .i64 x.HD),.sc (.int .i64 x.HC)]
structure dx where
 lot:Int
 ef:Int
 ed:Int
 ee:Int
 d8:Int
 lj:Int
 li:Int
 eW:Int
 lO:Int
 lP:Bool
 deriving DecidableEq,Inhabited
def Ry(x:dx):List Tree:=[.sc (.int .i64 x.lot),.sc (.int .i64 x.ef),.sc (.int .i64 x.ed),.sc (.int .i64 x.ee),.sc (.int .i64 x.d8),.sc (.int .i64 x.lj),.sc (.int .i64 x.li),.sc (.int .i64 x.eW),.sc (.int .i64 x.lO),.sc (.bool x.lP)]
structure dG where
 cm:(List fJ)
 b7:(List bX)
 b8:(List dY)
 az:(List aP)
 cp:(List ig)
 cd:(List fH)
 cz:(List bU)
 cg:Int
 land:(List gZ)
 cy:(List j4)
 windows:(List Vr)
 built:(List dx)
 base:(List bP)
def LD(x:dG):List Tree:=[.sl (x.cm.map GU),.sl (x.b7.map Kr),.sl (x.b8.map Pg),.sl (x.az.map zh),.sl (x.cp.map XV),.sl (x.cd.map Ph),.sl (x.cz.map zZ),.sc (.int .i64 x.cg),.sl (x.land.map Ny),.sl (x.cy.map Kt),.sl (x.windows.map Rx),.sl (x.built.map Ry),.sl (x.base.map Kq)]
structure mO where
 fi:(List fJ)
 ey:(List bX)
 eM:(List dY)
 eR:(List aP)
 fj:(List ig)
 eQ:(List fH)
 gc:(List bU)
 eS:Int
 pD:(List gZ)
 j8:(List j4)
 lR:(List Vr)
 fS:(List dx)
 pH:(List bP)
 sg:Int
 mw:Int
 ke:(List ay)
 oS:(List Int)
 dy:Int
 il:(List iH)
 cx:(List aF)
 zones:(List ByteArray)
def akW(x:mO):List Tree:=[.sl (x.fi.map GU),.sl (x.ey.map Kr),.sl (x.eM.map Pg),.sl (x.eR.map zh),.sl (x.fj.map XV),.sl (x.eQ.map Ph),.sl (x.gc.map zZ),.sc (.int .i64 x.eS),.sl (x.pD.map Ny),.sl (x.j8.map Kt),.sl (x.lR.map Rx),.sl (x.fS.map Ry),.sl (x.pH.map Kq),.sc (.int .i64 x.sg),.sc (.int .i64 x.mw),.sl (x.ke.map LB),.sl (x.oS.map (λ y=>[.sc (.int .i64 y)])),.sc (.int .i64 x.dy),.sl (x.il.map XT),.sl (x.cx.map LC),.sl (x.zones.map (λ y=>[.sc (.string y)]))]
structure amW where
 cm:(List fJ)
 b7:(List bX)
 b8:(List dY)
 az:(List aP)
 cp:(List ig)
 cd:(List fH)
 cz:(List bU)
 cg:Int
 area:(List ay)
 cx:(List aF)
def ami(x:amW):List Tree:=[.sl (x.cm.map GU),.sl (x.b7.map Kr),.sl (x.b8.map Pg),.sl (x.az.map zh),.sl (x.cp.map XV),.sl (x.cd.map Ph),.sl (x.cz.map zZ),.sc (.int .i64 x.cg),.sl (x.area.map LB),.sl (x.cx.map LC)]
structure LF where
 a0:ByteArray
 a1:ByteArray
 a2:ByteArray
 a3:ByteArray
 a4:ByteArray
 a5:ByteArray
 deriving DecidableEq,Inhabited
def ajf(x:LF):List Tree:=[.sc (.string x.a0),.sc (.string x.a1),.sc (.string x.a2),.sc (.string x.a3),.sc (.string x.a4),.sc (.string x.a5)]
structure pR where
 defs:(List fJ)
 uses:(List (List Int))
def akX(x:pR):List Tree:=[.sl (x.defs.map GU),.sl (x.uses.map (λ y=>[.sl (y.map (λ y=>[.sc (.int .i64 y)]))]))]
structure fI where
 z0:Int
 z1:Int
 area:(List ay)
 deriving DecidableEq,Inhabited
def amj(x:fI):List Tree:=[.sc (.int .i64 x.z0),.sc (.int .i64 x.z1),.sl (x.area.map LB)]
structure dS where
 side:Int
 base:Int
 num:Int
 den:Int
 deriving DecidableEq,Inhabited
def akY(x:dS):List Tree:=[.sc (.int .i64 x.side),.sc (.int .i64 x.base),.sc (.int .i64 x.num),.sc (.int .i64 x.den)]
structure Pj where
 a0:Int
 a1:Int
 a2:Int
 a3:Int
 deriving DecidableEq,Inhabited
def ajg(x:Pj):List Tree:=[.sc (.int .i64 x.a0),.sc (.int .i64 x.a1),.sc (.int .i64 x.a2),.sc (.int .i64 x.a3)]
inductive SI where
 |Expr
 |kq
 |Lot
 |iS
 |Entry
 |Phase
 |gd
 |CD
 |span
 |strip
 |iv
 |Cap
 |Def
 |Table
 |Zone
 |Rule
 |gC
 |View
 |lf
 |side
 |fp
 |Window
 |gb
 |ju
 |j9
 |site
 |mC
 |graph
 |ld
 |gi
 |mL
 deriving DecidableEq
@[reducible] def TT:SI->Type
 | .Expr=>bK
 | .kq=>ay
 | .Lot=>gZ
 | .iS=>aF
 | .Entry=>bP
 | .Phase=>iH
 | .gd=>aV
 | .CD=>BY
 | .span=>aD
 | .strip=>bQ
 | .iv=>dJ
 | .Cap=>ig
 | .Def=>fJ
 | .Table=>bX
 | .Zone=>dY
 | .Rule=>aP
 | .gC=>bU
 | .View=>fH
 | .lf=>cK
 | .side=>jE
 | .fp=>j4
 | .Window=>Vr
 | .gb=>dx
 | .ju=>dG
 | .j9=>mO
 | .site=>amW
 | .mC=>LF
 | .graph=>pR
 | .ld=>fI
 | .gi=>dS
 | .mL=>Pj
def aoq:(i:SI)->TT i->List Tree
 | .Expr,x=>rW x
 | .kq,x=>LB x
 | .Lot,x=>Ny x
 | .iS,x=>LC x
 | .Entry,x=>Kq x
 | .Phase,x=>XT x
 | .gd,x=>agJ x
 | .CD,x=>anC x
 | .span,x=>ah7 x
 | .strip,x=>akV x
 | .iv,x=>XU x
 | .Cap,x=>XV x
 | .Def,x=>GU x
 | .Table,x=>Kr x
 | .Zone,x=>Pg x
 | .Rule,x=>zh x
 | .gC,x=>zZ x
 | .View,x=>Ph x
 | .lf,x=>amg x
 | .side,x=>amh x
 | .fp,x=>Kt x
 | .Window,x=>Rx x
 | .gb,x=>Ry x
 | .ju,x=>LD x
 | .j9,x=>akW x
 | .site,x=>ami x
 | .mC,x=>ajf x
 | .graph,x=>akX x
 | .ld,x=>amj x
 | .gi,x=>akY x
 | .mL,x=>ajg x
def se:SE:=⟨SI,inferInstance,TT,aoq⟩
def S5:SI->List (CT SI)
 | .Expr=>[(.int .i64),(.int .i64),.str,.str,(.sl (.st SI.Expr))]
 | .kq=>[(.int .i64),(.int .i64),(.int .i64),(.int .i64)]
 | .Lot=>[(.int .i64),(.int .i64),(.sl (.st SI.kq)),(.sl (.int .i64))]
 | .iS=>[(.int .i64),(.int .i64),(.int .i64),(.int .i64),(.int .i64),(.int .i64),(.int .i64),(.int .i64),.bool]
 | .Entry=>[.str,(.int .i64)]
 | .Phase=>[(.sl (.st SI.iS)),(.sl (.st SI.Entry))]
 | .gd=>[(.int .i64),(.sl (.st SI.Phase))]
 | .CD=>[(.int .i64),(.int .i64),(.int .i64),(.int .i64),(.int .i64),(.int .i64)]
 | .span=>[(.int .i64),(.int .i64)]
 | .strip=>[(.int .i64),(.int .i64),(.sl (.st SI.span))]
 | .iv=>[(.int .i64),(.int .i64)]
 | .Cap=>[.str,(.int .i64),(.int .i64),(.sl (.st SI.iv))]
 | .Def=>[.str,(.int .i64),(.int .i64),.str,.str,(.sl (.st SI.Expr))]
 | .Table=>[.str,(.sl (.st SI.Entry)),(.int .i64)]
 | .Zone=>[.str,.bool,(.sl (.st SI.iv))]
 | .Rule=>[.str,(.sl .str),(.sl .str),(.int .i64),(.int .i64),(.int .i64),.bool,(.int .i64),(.int .i64),(.int .i64),.str,.str,(.sl (.st SI.Expr)),(.int .i64),(.int .i64),(.int .i64),(.int .i64),(.int .i64),(.int .i64),(.int .i64)]
 | .gC=>[(.int .i64),(.int .i64),(.int .i64)]
 | .View=>[.str,(.int .i64),(.int .i64),(.int .i64),(.int .i64),(.sl (.st SI.gC))]
 | .lf=>[(.sl (.st SI.Def)),(.sl (.st SI.Table)),(.sl (.st SI.Zone)),(.sl (.st SI.Rule)),(.sl (.st SI.Cap)),(.sl (.st SI.View)),(.sl (.st SI.gC)),(.int .i64)]
 | .side=>[(.int .i64),(.int .i64),(.int .i64),(.int .i64)]
 | .fp=>[(.int .i64),(.sl (.st SI.kq)),(.int .i64)]
 | .Window=>[(.int .i64),(.int .i64),(.int .i64),(.int .i64)]
 | .gb=>[(.int .i64),(.int .i64),(.int .i64),(.int .i64),(.int .i64),(.int .i64),(.int .i64),(.int .i64),(.int .i64),.bool]
 | .ju=>[(.sl (.st SI.Def)),(.sl (.st SI.Table)),(.sl (.st SI.Zone)),(.sl (.st SI.Rule)),(.sl (.st SI.Cap)),(.sl (.st SI.View)),(.sl (.st SI.gC)),(.int .i64),(.sl (.st SI.Lot)),(.sl (.st SI.fp)),(.sl (.st SI.Window)),(.sl (.st SI.gb)),(.sl (.st SI.Entry))]
 | .j9=>[(.sl (.st SI.Def)),(.sl (.st SI.Table)),(.sl (.st SI.Zone)),(.sl (.st SI.Rule)),(.sl (.st SI.Cap)),(.sl (.st SI.View)),(.sl (.st SI.gC)),(.int .i64),(.sl (.st SI.Lot)),(.sl (.st SI.fp)),(.sl (.st SI.Window)),(.sl (.st SI.gb)),(.sl (.st SI.Entry)),(.int .i64),(.int .i64),(.sl (.st SI.kq)),(.sl (.int .i64)),(.int .i64),(.sl (.st SI.Phase)),(.sl (.st SI.iS)),(.sl .str)]
 | .site=>[(.sl (.st SI.Def)),(.sl (.st SI.Table)),(.sl (.st SI.Zone)),(.sl (.st SI.Rule)),(.sl (.st SI.Cap)),(.sl (.st SI.View)),(.sl (.st SI.gC)),(.int .i64),(.sl (.st SI.kq)),(.sl (.st SI.iS))]
 | .mC=>[.str,.str,.str,.str,.str,.str]
 | .graph=>[(.sl (.st SI.Def)),(.sl (.sl (.int .i64)))]
 | .ld=>[(.int .i64),(.int .i64),(.sl (.st SI.kq))]
 | .gi=>[(.int .i64),(.int .i64),(.int .i64),(.int .i64)]
 | .mL=>[(.int .i64),(.int .i64),(.int .i64),(.int .i64)]
def aor:(i:SI)->TT i->HL se (S5 i)
 | .Expr,x=>(x.op,x.n,x.s,x.key,x.args,())
 | .kq,x=>(x.x0,x.y0,x.x1,x.y1,())
 | .Lot,x=>(x.id,x.owner,x.area,x.from_,())
 | .iS,x=>(x.bz,x.cj,x.bx,x.ci,x.ek,x.dE,x.use,x.units,x.extra,())
 | .Entry,x=>(x.name,x.n,())
 | .Phase,x=>(x.cx,x.gives,())
 | .gd,x=>(x.lot,x.phases,())
 | .CD,x=>(x.ov,x.oe,x.ot,x.oc,x.z0,x.z1,())
 | .span,x=>(x.from_,x.to,())
 | .strip,x=>(x.x0,x.x1,x.column,())
 | .iv,x=>(x.x,x.y,())
 | .Cap,x=>(x.name,x.load,x.limit,x.corners,())
 | .Def,x=>(x.name,x.iu,x.lz,x.kh,x.io,x.er,())
 | .Table,x=>(x.name,x.rows,x.rk,())
 | .Zone,x=>(x.name,x.overlay,x.corners,())
 | .Rule,x=>(x.name,x.zones,x.except,x.from_,x.j7,x.wy,x.vary,x.kind,x.kA,x.mm,x.ml,x.i7,x.fW,x.ii,x.ij,x.i9,x.jj,x.uses,x.other,x.n,())
 | .gC,x=>(x.x,x.y,x.z,())
 | .View,x=>(x.name,x.xe,x.xd,x.xc,x.least,x.targets,())
 | .lf,x=>(x.defs,x.tables,x.zones,x.rules,x.caps,x.views,x.nt,x.hours,())
 | .side,x=>(x.lE,x.pp,x.me,x.tp,())
 | .fp,x=>(x.lot,x.area,x.top,())
 | .Window,x=>(x.lot,x.HE,x.HD,x.HC,())
 | .gb,x=>(x.lot,x.ef,x.ed,x.ee,x.d8,x.lj,x.li,x.eW,x.lO,x.lP,())
 | .ju,x=>(x.cm,x.b7,x.b8,x.az,x.cp,x.cd,x.cz,x.cg,x.land,x.cy,x.windows,x.built,x.base,())
 | .j9,x=>(x.fi,x.ey,x.eM,x.eR,x.fj,x.eQ,x.gc,x.eS,x.pD,x.j8,x.lR,x.fS,x.pH,x.sg,x.mw,x.ke,x.oS,x.dy,x.il,x.cx,x.zones,())
 | .site,x=>(x.cm,x.b7,x.b8,x.az,x.cp,x.cd,x.cz,x.cg,x.area,x.cx,())
 | .mC,x=>(x.a0,x.a1,x.a2,x.a3,x.a4,x.a5,())
 | .graph,x=>(x.defs,x.uses,())
 | .ld,x=>(x.z0,x.z1,x.area,())
 | .gi,x=>(x.side,x.base,x.num,x.den,())
 | .mL,x=>(x.a0,x.a1,x.a2,x.a3,())
def an8:(i:SI)->HL se (S5 i)->TT i
 | .Expr,h=>⟨h.1,h.2.1,h.2.2.1,h.2.2.2.1,h.2.2.2.2.1⟩
 | .kq,h=>⟨h.1,h.2.1,h.2.2.1,h.2.2.2.1⟩
 | .Lot,h=>⟨h.1,h.2.1,h.2.2.1,h.2.2.2.1⟩
 | .iS,h=>⟨h.1,h.2.1,h.2.2.1,h.2.2.2.1,h.2.2.2.2.1,h.2.2.2.2.2.1,h.2.2.2.2.2.2.1,h.2.2.2.2.2.2.2.1,h.2.2.2.2.2.2.2.2.1⟩
 | .Entry,h=>⟨h.1,h.2.1⟩
 | .Phase,h=>⟨h.1,h.2.1⟩
 | .gd,h=>⟨h.1,h.2.1⟩
 | .CD,h=>⟨h.1,h.2.1,h.2.2.1,h.2.2.2.1,h.2.2.2.2.1,h.2.2.2.2.2.1⟩
 | .span,h=>⟨h.1,h.2.1⟩
 | .strip,h=>⟨h.1,h.2.1,h.2.2.1⟩
 | .iv,h=>⟨h.1,h.2.1⟩
 | .Cap,h=>⟨h.1,h.2.1,h.2.2.1,h.2.2.2.1⟩
 | .Def,h=>⟨h.1,h.2.1,h.2.2.1,h.2.2.2.1,h.2.2.2.2.1,h.2.2.2.2.2.1⟩
 | .Table,h=>⟨h.1,h.2.1,h.2.2.1⟩
 | .Zone,h=>⟨h.1,h.2.1,h.2.2.1⟩
 | .Rule,h=>⟨h.1,h.2.1,h.2.2.1,h.2.2.2.1,h.2.2.2.2.1,h.2.2.2.2.2.1,h.2.2.2.2.2.2.1,h.2.2.2.2.2.2.2.1,h.2.2.2.2.2.2.2.2.1,h.2.2.2.2.2.2.2.2.2.1,h.2.2.2.2.2.2.2.2.2.2.1,h.2.2.2.2.2.2.2.2.2.2.2.1,h.2.2.2.2.2.2.2.2.2.2.2.2.1,h.2.2.2.2.2.2.2.2.2.2.2.2.2.1,h.2.2.2.2.2.2.2.2.2.2.2.2.2.2.1,h.2.2.2.2.2.2.2.2.2.2.2.2.2.2.2.1,h.2.2.2.2.2.2.2.2.2.2.2.2.2.2.2.2.1,h.2.2.2.2.2.2.2.2.2.2.2.2.2.2.2.2.2.1,h.2.2.2.2.2.2.2.2.2.2.2.2.2.2.2.2.2.2.1,h.2.2.2.2.2.2.2.2.2.2.2.2.2.2.2.2.2.2.2.1⟩
 | .gC,h=>⟨h.1,h.2.1,h.2.2.1⟩
 | .View,h=>⟨h.1,h.2.1,h.2.2.1,h.2.2.2.1,h.2.2.2.2.1,h.2.2.2.2.2.1⟩
 | .lf,h=>⟨h.1,h.2.1,h.2.2.1,h.2.2.2.1,h.2.2.2.2.1,h.2.2.2.2.2.1,h.2.2.2.2.2.2.1,h.2.2.2.2.2.2.2.1⟩
 | .side,h=>⟨h.1,h.2.1,h.2.2.1,h.2.2.2.1⟩
 | .fp,h=>⟨h.1,h.2.1,h.2.2.1⟩
 | .Window,h=>⟨h.1,h.2.1,h.2.2.1,h.2.2.2.1⟩
 | .gb,h=>⟨h.1,h.2.1,h.2.2.1,h.2.2.2.1,h.2.2.2.2.1,h.2.2.2.2.2.1,h.2.2.2.2.2.2.1,h.2.2.2.2.2.2.2.1,h.2.2.2.2.2.2.2.2.1,h.2.2.2.2.2.2.2.2.2.1⟩
 | .ju,h=>⟨h.1,h.2.1,h.2.2.1,h.2.2.2.1,h.2.2.2.2.1,h.2.2.2.2.2.1,h.2.2.2.2.2.2.1,h.2.2.2.2.2.2.2.1,h.2.2.2.2.2.2.2.2.1,h.2.2.2.2.2.2.2.2.2.1,h.2.2.2.2.2.2.2.2.2.2.1,h.2.2.2.2.2.2.2.2.2.2.2.1,h.2.2.2.2.2.2.2.2.2.2.2.2.1⟩
 | .j9,h=>⟨h.1,h.2.1,h.2.2.1,h.2.2.2.1,h.2.2.2.2.1,h.2.2.2.2.2.1,h.2.2.2.2.2.2.1,h.2.2.2.2.2.2.2.1,h.2.2.2.2.2.2.2.2.1,h.2.2.2.2.2.2.2.2.2.1,h.2.2.2.2.2.2.2.2.2.2.1,h.2.2.2.2.2.2.2.2.2.2.2.1,h.2.2.2.2.2.2.2.2.2.2.2.2.1,h.2.2.2.2.2.2.2.2.2.2.2.2.2.1,h.2.2.2.2.2.2.2.2.2.2.2.2.2.2.1,h.2.2.2.2.2.2.2.2.2.2.2.2.2.2.2.1,h.2.2.2.2.2.2.2.2.2.2.2.2.2.2.2.2.1,h.2.2.2.2.2.2.2.2.2.2.2.2.2.2.2.2.2.1,h.2.2.2.2.2.2.2.2.2.2.2.2.2.2.2.2.2.2.1,h.2.2.2.2.2.2.2.2.2.2.2.2.2.2.2.2.2.2.2.1,h.2.2.2.2.2.2.2.2.2.2.2.2.2.2.2.2.2.2.2.2.1⟩
 | .site,h=>⟨h.1,h.2.1,h.2.2.1,h.2.2.2.1,h.2.2.2.2.1,h.2.2.2.2.2.1,h.2.2.2.2.2.2.1,h.2.2.2.2.2.2.2.1,h.2.2.2.2.2.2.2.2.1,h.2.2.2.2.2.2.2.2.2.1⟩
 | .mC,h=>⟨h.1,h.2.1,h.2.2.1,h.2.2.2.1,h.2.2.2.2.1,h.2.2.2.2.2.1⟩
 | .graph,h=>⟨h.1,h.2.1⟩
 | .ld,h=>⟨h.1,h.2.1,h.2.2.1⟩
 | .gi,h=>⟨h.1,h.2.1,h.2.2.1,h.2.2.2.1⟩
 | .mL,h=>⟨h.1,h.2.1,h.2.2.1,h.2.2.2.1⟩
def gvS:Nat->Option ((c:CT SI)×CT.T se c):=λ_=>none
def xx:SX:={ toSE:=se,cW:=S5,get:=aor,make:=an8,nw:=by intro i x;cases i<;>first |rfl |exact XR _,gh:=by intro i h;cases i<;>first |rfl |exact XR _,flat:=by intro i;cases i<;>rfl,gv:=gvS,wx:=λ_=>rfl }
abbrev da:Value:=.slice none 0 0
abbrev dk:Value:=.int .i64 0
abbrev Fi:Value:=.bool false
abbrev lL:Value:=.string ⟨#[]⟩
def tab:List (TypeId×np):=[
 (3,⟨1,8,false,[dk],.int .i64,[]⟩),
 (4,⟨1,1,false,[Fi],.bool,[]⟩),
 (5,⟨1,1,false,[.int .u8 0],.int .u8,[]⟩),
 (9,⟨1,16,false,[lL],.str,[]⟩),
 (22,⟨1,24,false,[da],.slice 91,[]⟩),
 (23,⟨1,24,false,[da],.slice 93,[]⟩),
 (24,⟨1,24,false,[da],.slice 96,[]⟩),
 (25,⟨1,24,false,[da],.slice 53,[]⟩),
 (26,⟨1,24,false,[da],.slice 98,[]⟩),
 (27,⟨1,24,false,[da],.slice 347,[]⟩),
 (28,⟨1,24,false,[da],.slice 345,[]⟩),
 (30,⟨8,176,true,[da,da,da,da,da,da,da,dk],.struct [(0,22),(1,23),(2,24),(3,25),(4,26),(5,27),(6,28),(7,3)],[]⟩),
 (31,⟨1,24,false,[da],.slice 70,[]⟩),
 (32,⟨1,24,false,[da],.slice 75,[]⟩),
 (33,⟨1,24,false,[da],.slice 349,[]⟩),
 (34,⟨1,24,false,[da],.slice 72,[]⟩),
 (35,⟨1,24,false,[da],.slice 129,[]⟩),
 (37,⟨13,296,true,[da,da,da,da,da,da,da,dk,da,da,da,da,da],.struct [(0,30),(8,31),(9,32),(10,33),(11,34),(12,35)],[]⟩),
 (38,⟨1,24,false,[da],.slice 66,[]⟩),
 (40,⟨2,32,true,[dk,da],.struct [(0,3),(1,38)],[]⟩),
 (43,⟨1,24,false,[da],.slice 9,[]⟩),
 (47,⟨1,24,false,[da],.slice 49,[]⟩),
 (49,⟨5,72,true,[dk,dk,lL,lL,da],.struct [(0,3),(1,3),(2,9),(3,9),(4,47)],[]⟩),
 (51,⟨4,32,true,[dk,dk,dk,dk],.struct [(0,3),(1,3),(2,3),(3,3)],[0,0,0,0]⟩),
 (53,⟨20,232,true,[lL,da,da,dk,dk,dk,Fi,dk,dk,dk,lL,lL,da,dk,dk,dk,dk,dk,dk,dk],.struct [(0,9),(1,43),(2,43),(3,3),(4,3),(5,3),(6,4),(7,3),(8,49),(13,51),(17,3),(18,3),(19,3)],[]⟩),
 (59,⟨4,32,true,[dk,dk,dk,dk],.struct [(0,3),(1,3),(2,3),(3,3)],[0,0,0,0]⟩),
 (61,⟨6,48,true,[dk,dk,dk,dk,dk,dk],.struct [(0,59),(4,3),(5,3)],[]⟩),
 (63,⟨9,72,true,[dk,dk,dk,dk,dk,dk,dk,dk,Fi],.struct [(0,61),(6,3),(7,3),(8,4)],[]⟩),
 (64,⟨1,24,false,[da],.slice 63,[]⟩),
 (66,⟨2,48,true,[da,da],.struct [(0,64),(1,35)],[]⟩),
 (67,⟨1,24,false,[da],.slice 59,[]⟩),
 (68,⟨1,24,false,[da],.slice 3,[]⟩),
 (70,⟨4,64,true,[dk,dk,da,da],.struct [(0,3),(1,3),(2,67),(3,68)],[]⟩),
 (72,⟨10,80,true,[dk,dk,dk,dk,dk,dk,dk,dk,dk,Fi],.struct [(0,3),(1,63)],[]⟩),
 (75,⟨3,40,true,[dk,da,dk],.struct [(0,3),(1,67),(2,3)],[]⟩),
 (78,⟨21,440,true,[da,da,da,da,da,da,da,dk,da,da,da,da,da,dk,dk,da,da,dk,da,da,da],.struct [(0,37),(13,70),(17,40),(19,64),(20,43)],[]⟩),
 (86,⟨1,24,false,[da],.slice 119,[]⟩),
 (91,⟨6,88,true,[lL,dk,dk,lL,lL,da],.struct [(0,9),(1,49)],[]⟩),
 (93,⟨3,48,true,[lL,da,dk],.struct [(0,9),(1,35),(2,3)],[]⟩),
 (94,⟨1,24,false,[da],.slice 169,[]⟩),
 (96,⟨3,48,true,[lL,Fi,da],.struct [(0,9),(1,4),(2,94)],[]⟩),
 (98,⟨4,56,true,[lL,dk,dk,da],.struct [(0,9),(1,3),(2,3),(3,94)],[]⟩),
 (112,⟨1,24,false,[da],.slice 51,[]⟩),
 (119,⟨3,40,true,[dk,dk,da],.struct [(0,3),(1,3),(2,67)],[]⟩),
 (129,⟨2,24,true,[lL,dk],.struct [(0,9),(1,3)],[2,0]⟩),
 (136,⟨1,8,false,[.map none],.map 9 3,[]⟩),
 (138,⟨10,208,true,[da,da,da,da,da,da,da,dk,.map none,da],.struct [(0,30),(8,136),(9,43)],[]⟩),
 (142,⟨1,8,false,[.pointer none],.other,[]⟩),
 (144,⟨10,224,true,[da,da,da,da,da,da,da,dk,da,da],.struct [(0,30),(8,67),(9,64)],[]⟩),
 (146,⟨1,8,false,[.nilFunc],.other,[]⟩),
 (148,⟨2,24,true,[lL,.nilFunc],.struct [(0,9),(1,146)],[]⟩),
 (149,⟨18,216,true,[lL,.nilFunc,lL,.nilFunc,lL,.nilFunc,lL,.nilFunc,lL,.nilFunc,lL,.nilFunc,lL,.nilFunc,lL,.nilFunc,lL,.nilFunc],.arr 9 148,[]⟩),
 (163,⟨1,8,false,[.map none],.map 9 4,[]⟩),
 (169,⟨2,16,true,[dk,dk],.struct [(0,3),(1,3)],[0,0]⟩),
 (193,⟨1,24,false,[da],.slice 200,[]⟩),
 (198,⟨1,24,false,[da],.slice 228,[]⟩),
 (200,⟨3,40,true,[dk,dk,da],.struct [(0,3),(1,3),(2,198)],[]⟩),
 (217,⟨1,8,false,[.int .u64 0],.int .u64,[]⟩),
 (224,⟨4,32,true,[dk,dk,dk,dk],.arr 4 3,[]⟩),
 (228,⟨2,16,true,[dk,dk],.struct [(0,3),(1,3)],[0,0]⟩),
 (229,⟨1,24,false,[da],.slice 67,[]⟩),
 (240,⟨1,24,false,[da],.slice 243,[]⟩),
 (243,⟨4,32,true,[dk,dk,dk,dk],.struct [(0,169),(2,169)],[]⟩),
 (244,⟨1,24,false,[da],.slice 68,[]⟩),
 (246,⟨2,48,true,[da,da],.struct [(0,22),(1,244)],[]⟩),
 (250,⟨1,24,false,[da],.slice 4,[]⟩),
 (260,⟨1,4,false,[.int .u32 0],.int .u32,[]⟩),
 (262,⟨1,8,false,[.int .u64 0],.int .u64,[]⟩),
 (269,⟨6,96,true,[lL,lL,lL,lL,lL,lL],.arr 6 9,[]⟩),
 (273,⟨1,24,false,[da],.slice 198,[]⟩),
 (287,⟨1,8,false,[.int .u64 0],.int .u64,[]⟩),
 (345,⟨3,24,true,[dk,dk,dk],.struct [(0,3),(1,3),(2,3)],[0,0,0]⟩),
 (347,⟨6,72,true,[lL,dk,dk,dk,dk,da],.struct [(0,9),(1,345),(4,3),(5,28)],[]⟩),
 (349,⟨4,32,true,[dk,dk,dk,dk],.struct [(0,3),(1,345)],[]⟩)]
def an9:List (TypeId×CT SI):=[(3,(.int .i64)),(4,.bool),(9,.str),(49,(.st SI.Expr)),(51,(.st SI.gi)),(53,(.st SI.Rule)),(59,(.st SI.kq)),(63,(.st SI.iS)),(66,(.st SI.Phase)),(67,(.sl (.st SI.kq))),(70,(.st SI.Lot)),(72,(.st SI.gb)),(119,(.st SI.ld)),(129,(.st SI.Entry)),(198,(.sl (.st SI.span))),(200,(.st SI.strip)),(228,(.st SI.span)),(243,(.st SI.side))]
def amX:TypeId->Option (CT xx.ι):=lk an9
theorem amY:eZ Tryz.prog (WB tab):=akb (by kernel_rfl)
theorem mixed:Tryz.prog.follows .mixedOrders=true:=Checked.mixed Tryz.checked
theorem cq{f:FuncId}{fn:Func}{l:List (FuncId×b9 xx)}(hΓ:rI Tryz.prog (vq l))(hfn:Tryz.prog.funcs[f]? =some fn){s:b9 xx}(h:Hn SI)(n:Nat)
 (hq : (fn.body.isSome && !(fn.name == "runtime.NumGoroutine") && decide (s.args.length <= fn.ntmps /\ qN s.args <= 1000 /\ (s.res.filter RT.out).length = qN s.args)) = true := by kernel_rfl) (hg : s.gen = none := by rfl)
 (hr:∀a,run (vq l) (WB tab) amX fn.ntmps n (fn.body.getD .skip) (uh xx s.res) h (vj s.args a) (an1 (WB tab) fn.results.toList s.res)=s.fn a:=by intro _;kernel_rfl):CC Tryz.prog f s:=by
 rw[aJ,aJ]at hq;obtain⟨⟨q1,q2⟩,q3⟩:=hq;have hb:fn.body=some (fn.body.getD .skip):=by
  cases hc:fn.body with
  |none=>rw[hc]at q1;cases q1
  |some c=>rfl
 have hn : (fn.name == "runtime.NumGoroutine") = false := by simpa using q2
 exact xi (nL hfn hb hn) (λ a _ e=>an2 amY mixed hΓ hfn hb hn _ _ (of_decide_eq_true q3) h n ((hr a).trans e)) hg
theorem oa{f:FuncId}{fn:Func}{l:List (FuncId×b9 xx)}(hΓ:rI Tryz.prog (vq l))(hfn:Tryz.prog.funcs[f]? =some fn){g:cT xx}(h:Hn SI)(n:Nat)
 (hq : (fn.body.isSome && !(fn.name == "runtime.NumGoroutine") && decide (g.pn.length <= fn.ntmps) && g.yp) = true)
 (hr:∀v,run (vq l) (WB tab) amX fn.ntmps n (fn.body.getD .skip) (VT (X:=xx) (Cx g).vars) h (DG g v) (amS (WB tab) fn.results.toList g)=g.fn v):CC Tryz.prog f ⟨[],[.d .bool],λ_=>none,some g⟩:=by
 rw[aJ,aJ,aJ]at hq;obtain⟨⟨⟨q1,q2⟩,q3⟩,q4⟩:=hq;have hb:fn.body=some (fn.body.getD .skip):=by
  cases hc:fn.body with
  |none=>rw[hc]at q1;cases q1
  |some c=>rfl
 have hn : (fn.name == "runtime.NumGoroutine") = false := by simpa using q2
 exact SD (nL hfn hb hn) (anr amY mixed hΓ hfn hb hn g (of_decide_eq_true q3) q4 h n (λ v _ e=>(hr v).trans e))
theorem gcn:rI Tryz.prog (vq ([]:List (FuncId×b9 xx))):=aB
abbrev af:CT SI:=.int .i64
abbrev ax:CT SI:=.st SI.kq
abbrev aI:CT SI:=.st SI.iS
abbrev fB:CT SI:=.st SI.gd
abbrev bG:CT SI:=.st SI.Cap
abbrev bq:CT SI:=.st SI.Def
abbrev bg:CT SI:=.st SI.Table
abbrev bC:CT SI:=.st SI.Zone
abbrev bf:CT SI:=.st SI.Rule
abbrev aX:CT SI:=.st SI.gC
abbrev bD:CT SI:=.st SI.View
abbrev aH(f:Nat)(s:b9 xx):Prop:=CC Tryz.prog f s
abbrev gV:=(List fJ)×(List bX)×(List dY)×(List aP)×(List ig)×(List fH)×(List bU)×Int×(List ay)×(List aF)
end Go.Proofs
