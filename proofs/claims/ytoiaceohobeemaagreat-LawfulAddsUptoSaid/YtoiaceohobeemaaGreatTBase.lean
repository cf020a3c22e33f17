import Derived.Test.YtoiaceohobeemaaGreatH1
import Derived.Test.YtoiaceohobeemaaGreatChecked
namespace Go.Proofs
open Go.Gb Go.RowKit
structure bL where
 op:Int
 n:Int
 s:ByteArray
 key:ByteArray
 args:(List bL)
mutual
def rY:bL->List Tree
 |⟨f0,f1,f2,f3,f4⟩=>[.sc (.int .i64 f0),.sc (.int .i64 f1),.sc (.string f2),.sc (.string f3),.sl (uF f4)]
def uF:List bL->List (List Tree)
 |[]=>[]
 |x::xs=>rY x::uF xs
end
theorem uG:∀l:List bL,uF l=l.map rY
 |[]=>rfl
 |x::xs=>by rw[uF,uG xs];rfl
theorem X5(x:bL):rY x=[.sc (.int .i64 x.op),.sc (.int .i64 x.n),.sc (.string x.s),.sc (.string x.key),.sl (x.args.map rY)]:=by cases x;simp only[rY,uG]
structure ay where
 x0:Int
 y0:Int
 x1:Int
 y1:Int
 deriving DecidableEq,Inhabited
def LP(x:ay):List Tree:=[.sc (.int .i64 x.x0),.sc (.int .i64 x.y0),.sc (.int .i64 x.x1),.sc (.int .i64 x.y1)]
structure gK where
 id:Int
 owner:Int
 area:(List ay)
 from_:(List Int)
 deriving DecidableEq,Inhabited
def NH(x:gK):List Tree:=[.sc (.int .i64 x.id),.sc (.int .i64 x.owner),.sl (x.area.map LP),.sl (x.from_.map (λ y=>[.sc (.int .i64 y)]))]
structure aF where
 bx:Int
 cd:Int
 bu:Int
 ca:Int
 ek:Int
 dC:Int
 use:Int
 units:Int
 extra:Bool
 deriving DecidableEq,Inhabited
def LQ(x:aF):List Tree:=[.sc (.int .i64 x.bx),.sc (.int .i64 x.cd),.sc (.int .i64 x.bu),.sc (.int .i64 x.ca),.sc (.int .i64 x.ek),.sc (.int .i64 x.dC),.sc (.int .i64 x.use),.sc (.int .i64 x.units),.sc (.bool x.extra)]
structure bP where
 name:ByteArray
 n:Int
 deriving DecidableEq,Inhabited
def Ky(x:bP):List Tree:=[.sc (.string x.name),.sc (.int .i64 x.n)]
structure iJ where
 cx:(List aF)
 gives:(List bP)
 deriving DecidableEq,Inhabited
def X6(x:iJ):List Tree:=[.sl (x.cx.map LQ),.sl (x.gives.map Ky)]
structure aV where
 lot:Int
 phases:(List iJ)
 deriving DecidableEq,Inhabited
def X7(x:aV):List Tree:=[.sc (.int .i64 x.lot),.sl (x.phases.map X6)]
structure B4 where
 ov:Int
 oe:Int
 ot:Int
 oc:Int
 z0:Int
 z1:Int
 deriving DecidableEq,Inhabited
def anR(x:B4):List Tree:=[.sc (.int .i64 x.ov),.sc (.int .i64 x.oe),.sc (.int .i64 x.ot),.sc (.int .i64 x.oc),.sc (.int .i64 x.z0),.sc (.int .i64 x.z1)]
structure aD where
 from_:Int
 to:Int
 deriving DecidableEq,Inhabited
def ail(x:aD):List Tree:=[.sc (.int .i64 x.from_),.sc (.int .i64 x.to)]
structure bQ where
 x0:Int
 x1:Int
 column:(List aD)
 deriving DecidableEq,Inhabited
def ala(x:bQ):List Tree:=[.sc (.int .i64 x.x0),.sc (.int .i64 x.x1),.sl (x.column.map ail)]
structure dJ where
 x:Int
 y:Int
 deriving DecidableEq,Inhabited
def X8(x:dJ):List Tree:=[.sc (.int .i64 x.x),.sc (.int .i64 x.y)]
structure iw where
 name:ByteArray
 load:Int
 limit:Int
 corners:(List dJ)
 deriving DecidableEq,Inhabited
def X9(x:iw):List Tree:=[.sc (.string x.name),.sc (.int .i64 x.load),.sc (.int .i64 x.limit),.sl (x.corners.map X8)]
structure fK where
 name:ByteArray
 iu:Int
 lz:Int
 kf:ByteArray
 il:ByteArray
 er:(List bL)
def G5(x:fK):List Tree:=[.sc (.string x.name),.sc (.int .i64 x.iu),.sc (.int .i64 x.lz),.sc (.string x.kf),.sc (.string x.il),.sl (x.er.map rY)]
structure bZ where
 name:ByteArray
 rows:(List bP)
 rm:Int
 deriving DecidableEq,Inhabited
def Kz(x:bZ):List Tree:=[.sc (.string x.name),.sl (x.rows.map Ky),.sc (.int .i64 x.rm)]
structure dY where
 name:ByteArray
 overlay:Bool
 corners:(List dJ)
 deriving DecidableEq,Inhabited
def Ps(x:dY):List Tree:=[.sc (.string x.name),.sc (.bool x.overlay),.sl (x.corners.map X8)]
structure aM where
 name:ByteArray
 zones:(List ByteArray)
 except:(List ByteArray)
 from_:Int
 j0:Int
 wy:Int
 vary:Bool
 kind:Int
 ky:Int
 mm:Int
 ml:ByteArray
 i7:ByteArray
 fX:(List bL)
 ie:Int
 ii:Int
 i8:Int
 i9:Int
 uses:Int
 other:Int
 n:Int
def wS(x:aM):List Tree:=[.sc (.string x.name),.sl (x.zones.map (λ y=>[.sc (.string y)])),.sl (x.except.map (λ y=>[.sc (.string y)])),.sc (.int .i64 x.from_),.sc (.int .i64 x.j0),.sc (.int .i64 x.wy),.sc (.bool x.vary),.sc (.int .i64 x.kind),.sc (.int .i64 x.ky),.sc (.int .i64 x.mm),.sc (.string x.ml),.sc (.string x.i7),.sl (x.fX.map rY),.sc (.int .i64 x.ie),.sc (.int .i64 x.ii),.sc (.int .i64 x.i8),.sc (.int .i64 x.i9),.sc (.int .i64 x.uses),.sc (.int .i64 x.other),.sc (.int .i64 x.n)]
structure bX where
 x:Int
 y:Int
 z:Int
 deriving DecidableEq,Inhabited
def Af(x:bX):List Tree:=[.sc (.int .i64 x.x),.sc (.int .i64 x.y),.sc (.int .i64 x.z)]
structure fI where
 name:ByteArray
 xe:Int
 xd:Int
 xc:Int
 least:Int
 targets:(List bX)
 deriving DecidableEq,Inhabited
def Pv(x:fI):List Tree:=[.sc (.string x.name),.sc (.int .i64 x.xe),.sc (.int .i64 x.xd),.sc (.int .i64 x.xc),.sc (.int .i64 x.least),.sl (x.targets.map Af)]
structure cO where
 defs:(List fK)
 tables:(List bZ)
 zones:(List dY)
 rules:(List aM)
 caps:(List iw)
 views:(List fI)
 nt:(List bX)
 hours:Int
def amt(x:cO):List Tree:=[.sl (x.defs.map G5),.sl (x.tables.map Kz),.sl (x.zones.map Ps),.sl (x.rules.map wS),.sl (x.caps.map X9),.sl (x.views.map Pv),.sl (x.nt.map Af),.sc (.int .i64 x.hours)]
structure jG where
 lE:Int
 pp:Int
 me:Int
 tp:Int
 deriving DecidableEq,Inhabited
def amu(x:jG):List Tree:=[.sc (.int .i64 x.lE),.sc (.int .i64 x.pp),.sc (.int .i64 x.me),.sc (.int .i64 x.tp)]
structure ko where
 lot:Int
 area:(List ay)
 top:Int
 deriving DecidableEq,Inhabited
def KA(x:ko):List Tree:=[.sc (.int .i64 x.lot),.sl (x.area.map LP),.sc (.int .i64 x.top)]
structure VA where
 lot:Int
 HJ:Int
 HI:Int
 HH:Int
 deriving DecidableEq,Inhabited
def RF(x:VA):List Tree:=[.sc (.int .i64 x.lot),.sc (.int .i64 x.HJ),.sc (.int .i64 x.HI),.sc (.int .i64 x.HH)]
structure bS where
 lot:Int
 ee:Int
 d8:Int
 ed:Int
 d7:Int
 lj:Int
 li:Int
 fc:Int
 lO:Int
 lP:Bool
 deriving DecidableEq,Inhabited
def LU(x:bS):List Tree:=[.sc (.int .i64 x.lot),.sc (.int .i64 x.ee),.sc (.int .i64 x.d8),.sc (.int .i64 x.ed),.sc (.int .i64 x.d7),.sc (.int .i64 x.lj),.sc (.int .i64 x.li),.sc (.int .i64 x.fc),.sc (.int .i64 x.lO),.sc (.bool x.lP)]
structure dh where
 cm:(List fK)
 b7:(List bZ)
 b8:(List dY)
 az:(List aM)
 co:(List iw)
 ci:(List fI)
 cz:(List bX)
 cj:Int
 land:(List gK)
 cp:(List ko)
 windows:(List VA)
 built:(List bS)
 base:(List bP)
def G6(x:dh):List Tree:=[.sl (x.cm.map G5),.sl (x.b7.map Kz),.sl (x.b8.map Ps),.sl (x.az.map wS),.sl (x.co.map X9),.sl (x.ci.map Pv),.sl (x.cz.map Af),.sc (.int .i64 x.cj),.sl (x.land.map NH),.sl (x.cp.map KA),.sl (x.windows.map RF),.sl (x.built.map LU),.sl (x.base.map Ky)]
structure mU where
 fj:(List fK)
 ez:(List bZ)
 eQ:(List dY)
 eS:(List aM)
 fm:(List iw)
 eR:(List fI)
 gc:(List bX)
 eV:Int
 pD:(List gK)
 j7:(List ko)
 lR:(List VA)
 fW:(List bS)
 pH:(List bP)
 sk:Int
 mw:Int
 ka:(List ay)
 oS:(List Int)
 du:Int
 ik:(List iJ)
 cx:(List aF)
 zones:(List ByteArray)
def alb(x:mU):List Tree:=[.sl (x.fj.map G5),.sl (x.ez.map Kz),.sl (x.eQ.map Ps),.sl (x.eS.map wS),.sl (x.fm.map X9),.sl (x.eR.map Pv),.sl (x.gc.map Af),.sc (.int .i64 x.eV),.sl (x.pD.map NH),.sl (x.j7.map KA),.sl (x.lR.map RF),.sl (x.fW.map LU),.sl (x.pH.map Ky),.sc (.int .i64 x.sk),.sc (.int .i64 x.mw),.sl (x.ka.map LP),.sl (x.oS.map (λ y=>[.sc (.int .i64 y)])),.sc (.int .i64 x.du),.sl (x.ik.map X6),.sl (x.cx.map LQ),.sl (x.zones.map (λ y=>[.sc (.string y)]))]
structure ane where
 cm:(List fK)
 b7:(List bZ)
 b8:(List dY)
 az:(List aM)
 co:(List iw)
 ci:(List fI)
 cz:(List bX)
 cj:Int
 area:(List ay)
 cx:(List aF)
def amv(x:ane):List Tree:=[.sl (x.cm.map G5),.sl (x.b7.map Kz),.sl (x.b8.map Ps),.sl (x.az.map wS),.sl (x.co.map X9),.sl (x.ci.map Pv),.sl (x.cz.map Af),.sc (.int .i64 x.cj),.sl (x.area.map LP),.sl (x.cx.map LQ)]
structure LV where
 a0:ByteArray
 a1:ByteArray
 a2:ByteArray
 a3:ByteArray
 a4:ByteArray
 a5:ByteArray
 deriving DecidableEq,Inhabited
def ajs(x:LV):List Tree:=[.sc (.string x.a0),.sc (.string x.a1),.sc (.string x.a2),.sc (.string x.a3),.sc (.string x.a4),.sc (.string x.a5)]
structure pR where
 defs:(List fK)
 uses:(List (List Int))
def alc(x:pR):List Tree:=[.sl (x.defs.map G5),.sl (x.uses.map (λ y=>[.sl (y.map (λ y=>[.sc (.int .i64 y)]))]))]
structure fJ where
 z0:Int
 z1:Int
 area:(List ay)
 deriving DecidableEq,Inhabited
def amw(x:fJ):List Tree:=[.sc (.int .i64 x.z0),.sc (.int .i64 x.z1),.sl (x.area.map LP)]
structure dU where
 side:Int
 base:Int
 num:Int
 den:Int
 deriving DecidableEq,Inhabited
def ald(x:dU):List Tree:=[.sc (.int .i64 x.side),.sc (.int .i64 x.base),.sc (.int .i64 x.num),.sc (.int .i64 x.den)]
structure Pw where
 a0:Int
 a1:Int
 a2:Int
 a3:Int
 deriving DecidableEq,Inhabited
def ajt(x:Pw):List Tree:=[.sc (.int .i64 x.a0),.sc (.int .i64 x.a1),.sc (.int .i64 x.a2),.sc (.int .i64 x.a3)]
inductive SI where
 |Expr
 |km
 |Lot
 |iS
 |Entry
 |Phase
 |gd
 |CI
 |span
 |strip
 |iv
 |Cap
 |Def
 |Table
 |Zone
 |Rule
 |gC
 |View
 |lf
 |side
 |ft
 |Window
 |ev
 |jt
 |j8
 |site
 |mC
 |graph
 |ld
 |gi
 |mL
 deriving DecidableEq
@[reducible] def TT:SI->Type
 | .Expr=>bL
 | .km=>ay
 | .Lot=>gK
 | .iS=>aF
 | .Entry=>bP
 | .Phase=>iJ
 | .gd=>aV
 | .CI=>B4
 | .span=>aD
 | .strip=>bQ
 | .iv=>dJ
 | .Cap=>iw
 | .Def=>fK
 | .Table=>bZ
 | .Zone=>dY
 | .Rule=>aM
 | .gC=>bX
 | .View=>fI
 | .lf=>cO
 | .side=>jG
 | .ft=>ko
 | .Window=>VA
 | .ev=>bS
 | .jt=>dh
 | .j8=>mU
 | .site=>ane
 | .mC=>LV
 | .graph=>pR
 | .ld=>fJ
 | .gi=>dU
 | .mL=>Pw
def aoF:(i:SI)->TT i->List Tree
 | .Expr,x=>rY x
 | .km,x=>LP x
 | .Lot,x=>NH x
 | .iS,x=>LQ x
 | .Entry,x=>Ky x
 | .Phase,x=>X6 x
 | .gd,x=>X7 x
 | .CI,x=>anR x
 | .span,x=>ail x
 | .strip,x=>ala x
 | .iv,x=>X8 x
 | .Cap,x=>X9 x
 | .Def,x=>G5 x
 | .Table,x=>Kz x
 | .Zone,x=>Ps x
 | .Rule,x=>wS x
 | .gC,x=>Af x
 | .View,x=>Pv x
 | .lf,x=>amt x
 | .side,x=>amu x
 | .ft,x=>KA x
 | .Window,x=>RF x
 | .ev,x=>LU x
 | .jt,x=>G6 x
 | .j8,x=>alb x
 | .site,x=>amv x
 | .mC,x=>ajs x
 | .graph,x=>alc x
 | .ld,x=>amw x
 | .gi,x=>ald x
 | .mL,x=>ajt x
def se:SE:=⟨SI,inferInstance,TT,aoF⟩
def S4:SI->List (CT SI)
 | .Expr=>[(.int .i64),(.int .i64),.str,.str,(.sl (.st SI.Expr))]
 | .km=>[(.int .i64),(.int .i64),(.int .i64),(.int .i64)]
 | .Lot=>[(.int .i64),(.int .i64),(.sl (.st SI.km)),(.sl (.int .i64))]
 | .iS=>[(.int .i64),(.int .i64),(.int .i64),(.int .i64),(.int .i64),(.int .i64),(.int .i64),(.int .i64),.bool]
 | .Entry=>[.str,(.int .i64)]
 | .Phase=>[(.sl (.st SI.iS)),(.sl (.st SI.Entry))]
 | .gd=>[(.int .i64),(.sl (.st SI.Phase))]
 | .CI=>[(.int .i64),(.int .i64),(.int .i64),(.int .i64),(.int .i64),(.int .i64)]
 | .span=>[(.int .i64),(.int .i64)]
 | .strip=>[(.int .i64),(.int .i64),(.sl (.st SI.span))]
 | .iv=>[(.int .i64),(.int .i64)]
 | .Cap=>[.str,(.int .i64),(.int .i64),(.sl (.st SI.iv))]
 | .Def=>[.str,(.int .i64),(.int .i64),.str,.str,(.sl (.st SI.Expr))]
 | .Table=>[.str,(.sl (.st SI.Entry)),(.int .i64)]
 | .Zone=>[.str,.bool,(.sl (.st SI.iv))]
 | .Rule=>[.str,(.sl .str),(.sl .str),(.int .i64),(.int .i64),(.int .i64),.bool,(.int .i64),(.int .i64),(.int .i64),.str,.str,(.sl (.st SI.Expr)),(.int .i64),(.int .i64),(.int .i64),(.int .i64),(.int .i64),(.int .i64),(.int .i64)]
 | .gC=>[(.int .i64),(.int .i64),(.int .i64)]
 | .View=>[.str,(.int .i64),(.int .i64),(.int .i64),(.int .i64),(.sl (.st SI.gC))]
 | .lf=>[(.sl (.st SI.Def)),(.sl (.st SI.Table)),(.sl (.st SI.Zone)),(.sl (.st SI.Rule)),(.sl (.st SI.Cap)),(.sl (.st SI.View)),(.sl (.st SI.gC)),(.int .i64)]
 | .side=>[(.int .i64),(.int .i64),(.int .i64),(.int .i64)]
 | .ft=>[(.int .i64),(.sl (.st SI.km)),(.int .i64)]
 | .Window=>[(.int .i64),(.int .i64),(.int .i64),(.int .i64)]
 | .ev=>[(.int .i64),(.int .i64),(.int .i64),(.int .i64),(.int .i64),(.int .i64),(.int .i64),(.int .i64),(.int .i64),.bool]
 | .jt=>[(.sl (.st SI.Def)),(.sl (.st SI.Table)),(.sl (.st SI.Zone)),(.sl (.st SI.Rule)),(.sl (.st SI.Cap)),(.sl (.st SI.View)),(.sl (.st SI.gC)),(.int .i64),(.sl (.st SI.Lot)),(.sl (.st SI.ft)),(.sl (.st SI.Window)),(.sl (.st SI.ev)),(.sl (.st SI.Entry))]
 | .j8=>[(.sl (.st SI.Def)),(.sl (.st SI.Table)),(.sl (.st SI.Zone)),(.sl (.st SI.Rule)),(.sl (.st SI.Cap)),(.sl (.st SI.View)),(.sl (.st SI.gC)),(.int .i64),(.sl (.st SI.Lot)),(.sl (.st SI.ft)),(.sl (.st SI.Window)),(.sl (.st SI.ev)),(.sl (.st SI.Entry)),(.int .i64),(.int .i64),(.sl (.st SI.km)),(.sl (.int .i64)),(.int .i64),(.sl (.st SI.Phase)),(.sl (.st SI.iS)),(.sl .str)]
 | .site=>[(.sl (.st SI.Def)),(.sl (.st SI.Table)),(.sl (.st SI.Zone)),(.sl (.st SI.Rule)),(.sl (.st SI.Cap)),(.sl (.st SI.View)),(.sl (.st SI.gC)),(.int .i64),(.sl (.st SI.km)),(.sl (.st SI.iS))]
 | .mC=>[.str,.str,.str,.str,.str,.str]
 | .graph=>[(.sl (.st SI.Def)),(.sl (.sl (.int .i64)))]
 | .ld=>[(.int .i64),(.int .i64),(.sl (.st SI.km))]
 | .gi=>[(.int .i64),(.int .i64),(.int .i64),(.int .i64)]
 | .mL=>[(.int .i64),(.int .i64),(.int .i64),(.int .i64)]
def aoG:(i:SI)->TT i->HL se (S4 i)
 | .Expr,x=>(x.op,x.n,x.s,x.key,x.args,())
 | .km,x=>(x.x0,x.y0,x.x1,x.y1,())
 | .Lot,x=>(x.id,x.owner,x.area,x.from_,())
 | .iS,x=>(x.bx,x.cd,x.bu,x.ca,x.ek,x.dC,x.use,x.units,x.extra,())
 | .Entry,x=>(x.name,x.n,())
 | .Phase,x=>(x.cx,x.gives,())
 | .gd,x=>(x.lot,x.phases,())
 | .CI,x=>(x.ov,x.oe,x.ot,x.oc,x.z0,x.z1,())
 | .span,x=>(x.from_,x.to,())
 | .strip,x=>(x.x0,x.x1,x.column,())
 | .iv,x=>(x.x,x.y,())
 | .Cap,x=>(x.name,x.load,x.limit,x.corners,())
 | .Def,x=>(x.name,x.iu,x.lz,x.kf,x.il,x.er,())
 | .Table,x=>(x.name,x.rows,x.rm,())
 | .Zone,x=>(x.name,x.overlay,x.corners,())
 | .Rule,x=>(x.name,x.zones,x.except,x.from_,x.j0,x.wy,x.vary,x.kind,x.ky,x.mm,x.ml,x.i7,x.fX,x.ie,x.ii,x.i8,x.i9,x.uses,x.other,x.n,())
 | .gC,x=>(x.x,x.y,x.z,())
 | .View,x=>(x.name,x.xe,x.xd,x.xc,x.least,x.targets,())
 | .lf,x=>(x.defs,x.tables,x.zones,x.rules,x.caps,x.views,x.nt,x.hours,())
 | .side,x=>(x.lE,x.pp,x.me,x.tp,())
 | .ft,x=>(x.lot,x.area,x.top,())
 | .Window,x=>(x.lot,x.HJ,x.HI,x.HH,())
 | .ev,x=>(x.lot,x.ee,x.d8,x.ed,x.d7,x.lj,x.li,x.fc,x.lO,x.lP,())
 | .jt,x=>(x.cm,x.b7,x.b8,x.az,x.co,x.ci,x.cz,x.cj,x.land,x.cp,x.windows,x.built,x.base,())
 | .j8,x=>(x.fj,x.ez,x.eQ,x.eS,x.fm,x.eR,x.gc,x.eV,x.pD,x.j7,x.lR,x.fW,x.pH,x.sk,x.mw,x.ka,x.oS,x.du,x.ik,x.cx,x.zones,())
 | .site,x=>(x.cm,x.b7,x.b8,x.az,x.co,x.ci,x.cz,x.cj,x.area,x.cx,())
 | .mC,x=>(x.a0,x.a1,x.a2,x.a3,x.a4,x.a5,())
 | .graph,x=>(x.defs,x.uses,())
 | .ld,x=>(x.z0,x.z1,x.area,())
 | .gi,x=>(x.side,x.base,x.num,x.den,())
 | .mL,x=>(x.a0,x.a1,x.a2,x.a3,())
def aoo:(i:SI)->HL se (S4 i)->TT i
 | .Expr,h=>⟨h.1,h.2.1,h.2.2.1,h.2.2.2.1,h.2.2.2.2.1⟩
 | .km,h=>⟨h.1,h.2.1,h.2.2.1,h.2.2.2.1⟩
 | .Lot,h=>⟨h.1,h.2.1,h.2.2.1,h.2.2.2.1⟩
 | .iS,h=>⟨h.1,h.2.1,h.2.2.1,h.2.2.2.1,h.2.2.2.2.1,h.2.2.2.2.2.1,h.2.2.2.2.2.2.1,h.2.2.2.2.2.2.2.1,h.2.2.2.2.2.2.2.2.1⟩
 | .Entry,h=>⟨h.1,h.2.1⟩
 | .Phase,h=>⟨h.1,h.2.1⟩
 | .gd,h=>⟨h.1,h.2.1⟩
 | .CI,h=>⟨h.1,h.2.1,h.2.2.1,h.2.2.2.1,h.2.2.2.2.1,h.2.2.2.2.2.1⟩
 | .span,h=>⟨h.1,h.2.1⟩
 | .strip,h=>⟨h.1,h.2.1,h.2.2.1⟩
 | .iv,h=>⟨h.1,h.2.1⟩
 | .Cap,h=>⟨h.1,h.2.1,h.2.2.1,h.2.2.2.1⟩
 | .Def,h=>⟨h.1,h.2.1,h.2.2.1,h.2.2.2.1,h.2.2.2.2.1,h.2.2.2.2.2.1⟩
 | .Table,h=>⟨h.1,h.2.1,h.2.2.1⟩
 | .Zone,h=>⟨h.1,h.2.1,h.2.2.1⟩
 | .Rule,h=>⟨h.1,h.2.1,h.2.2.1,h.2.2.2.1,h.2.2.2.2.1,h.2.2.2.2.2.1,h.2.2.2.2.2.2.1,h.2.2.2.2.2.2.2.1,h.2.2.2.2.2.2.2.2.1,h.2.2.2.2.2.2.2.2.2.1,h.2.2.2.2.2.2.2.2.2.2.1,h.2.2.2.2.2.2.2.2.2.2.2.1,h.2.2.2.2.2.2.2.2.2.2.2.2.1,h.2.2.2.2.2.2.2.2.2.2.2.2.2.1,h.2.2.2.2.2.2.2.2.2.2.2.2.2.2.1,h.2.2.2.2.2.2.2.2.2.2.2.2.2.2.2.1,h.2.2.2.2.2.2.2.2.2.2.2.2.2.2.2.2.1,h.2.2.2.2.2.2.2.2.2.2.2.2.2.2.2.2.2.1,h.2.2.2.2.2.2.2.2.2.2.2.2.2.2.2.2.2.2.1,h.2.2.2.2.2.2.2.2.2.2.2.2.2.2.2.2.2.2.2.1⟩
 | .gC,h=>⟨h.1,h.2.1,h.2.2.1⟩
 | .View,h=>⟨h.1,h.2.1,h.2.2.1,h.2.2.2.1,h.2.2.2.2.1,h.2.2.2.2.2.1⟩
 | .lf,h=>⟨h.1,h.2.1,h.2.2.1,h.2.2.2.1,h.2.2.2.2.1,h.2.2.2.2.2.1,h.2.2.2.2.2.2.1,h.2.2.2.2.2.2.2.1⟩
 | .side,h=>⟨h.1,h.2.1,h.2.2.1,h.2.2.2.1⟩
 | .ft,h=>⟨h.1,h.2.1,h.2.2.1⟩
 | .Window,h=>⟨h.1,h.2.1,h.2.2.1,h.2.2.2.1⟩
 | .ev,h=>⟨h.1,h.2.1,h.2.2.1,h.2.2.2.1,h.2.2.2.2.1,h.2.2.2.2.2.1,h.2.2.2.2.2.2.1,h.2.2.2.2.2.2.2.1,h.2.2.2.2.2.2.2.2.1,h.2.2.2.2.2.2.2.2.2.1⟩
 | .jt,h=>⟨h.1,h.2.1,h.2.2.1,h.2.2.2.1,h.2.2.2.2.1,h.2.2.2.2.2.1,h.2.2.2.2.2.2.1,h.2.2.2.2.2.2.2.1,h.2.2.2.2.2.2.2.2.1,h.2.2.2.2.2.2.2.2.2.1,h.2.2.2.2.2.2.2.2.2.2.1,h.2.2.2.2.2.2.2.2.2.2.2.1,h.2.2.2.2.2.2.2.2.2.2.2.2.1⟩
 | .j8,h=>⟨h.1,h.2.1,h.2.2.1,h.2.2.2.1,h.2.2.2.2.1,h.2.2.2.2.2.1,h.2.2.2.2.2.2.1,h.2.2.2.2.2.2.2.1,h.2.2.2.2.2.2.2.2.1,h.2.2.2.2.2.2.2.2.2.1,h.2.2.2.2.2.2.2.2.2.2.1,h.2.2.2.2.2.2.2.2.2.2.2.1,h.2.2.2.2.2.2.2.2.2.2.2.2.1,h.2.2.2.2.2.2.2.2.2.2.2.2.2.1,h.2.2.2.2.2.2.2.2.2.2.2.2.2.2.1,h.2.2.2.2.2.2.2.2.2.2.2.2.2.2.2.1,h.2.2.2.2.2.2.2.2.2.2.2.2.2.2.2.2.1,h.2.2.2.2.2.2.2.2.2.2.2.2.2.2.2.2.2.1,h.2.2.2.2.2.2.2.2.2.2.2.2.2.2.2.2.2.2.1,h.2.2.2.2.2.2.2.2.2.2.2.2.2.2.2.2.2.2.2.1,h.2.2.2.2.2.2.2.2.2.2.2.2.2.2.2.2.2.2.2.2.1⟩
 | .site,h=>⟨h.1,h.2.1,h.2.2.1,h.2.2.2.1,h.2.2.2.2.1,h.2.2.2.2.2.1,h.2.2.2.2.2.2.1,h.2.2.2.2.2.2.2.1,h.2.2.2.2.2.2.2.2.1,h.2.2.2.2.2.2.2.2.2.1⟩
 | .mC,h=>⟨h.1,h.2.1,h.2.2.1,h.2.2.2.1,h.2.2.2.2.1,h.2.2.2.2.2.1⟩
 | .graph,h=>⟨h.1,h.2.1⟩
 | .ld,h=>⟨h.1,h.2.1,h.2.2.1⟩
 | .gi,h=>⟨h.1,h.2.1,h.2.2.1,h.2.2.2.1⟩
 | .mL,h=>⟨h.1,h.2.1,h.2.2.1,h.2.2.2.1⟩
def gvS:Nat->Option ((c:CT SI)×CT.T se c):=λ_=>none
def xx:SX:={ toSE:=se,cV:=S4,get:=aoG,make:=aoo,nw:=by intro i x;cases i<;>first |rfl |exact X5 _,gh:=by intro i h;cases i<;>first |rfl |exact X5 _,flat:=by intro i;cases i<;>rfl,gv:=gvS,wx:=λ_=>rfl }
abbrev c9:Value:=.slice none 0 0
abbrev dg:Value:=.int .i64 0
abbrev Fo:Value:=.bool false
abbrev lL:Value:=.string ⟨#[]⟩
def tab:List (TypeId×np):=[
 (3,⟨1,8,false,[dg],.int .i64,[]⟩),
 (4,⟨1,1,false,[Fo],.bool,[]⟩),
 (5,⟨1,1,false,[.int .u8 0],.int .u8,[]⟩),
 (9,⟨1,16,false,[lL],.str,[]⟩),
 (22,⟨1,24,false,[c9],.slice 93,[]⟩),
 (23,⟨1,24,false,[c9],.slice 95,[]⟩),
 (24,⟨1,24,false,[c9],.slice 98,[]⟩),
 (25,⟨1,24,false,[c9],.slice 48,[]⟩),
 (26,⟨1,24,false,[c9],.slice 100,[]⟩),
 (27,⟨1,24,false,[c9],.slice 348,[]⟩),
 (28,⟨1,24,false,[c9],.slice 346,[]⟩),
 (30,⟨8,176,true,[c9,c9,c9,c9,c9,c9,c9,dg],.struct [(0,22),(1,23),(2,24),(3,25),(4,26),(5,27),(6,28),(7,3)],[]⟩),
 (31,⟨1,24,false,[c9],.slice 73,[]⟩),
 (32,⟨1,24,false,[c9],.slice 77,[]⟩),
 (33,⟨1,24,false,[c9],.slice 350,[]⟩),
 (34,⟨1,24,false,[c9],.slice 56,[]⟩),
 (35,⟨1,24,false,[c9],.slice 130,[]⟩),
 (37,⟨13,296,true,[c9,c9,c9,c9,c9,c9,c9,dg,c9,c9,c9,c9,c9],.struct [(0,30),(8,31),(9,32),(10,33),(11,34),(12,35)],[]⟩),
 (38,⟨1,24,false,[c9],.slice 69,[]⟩),
 (40,⟨2,32,true,[dg,c9],.struct [(0,3),(1,38)],[]⟩),
 (41,⟨1,24,false,[c9],.slice 9,[]⟩),
 (42,⟨1,24,false,[c9],.slice 44,[]⟩),
 (44,⟨5,72,true,[dg,dg,lL,lL,c9],.struct [(0,3),(1,3),(2,9),(3,9),(4,42)],[]⟩),
 (46,⟨4,32,true,[dg,dg,dg,dg],.struct [(0,3),(1,3),(2,3),(3,3)],[0,0,0,0]⟩),
 (48,⟨20,232,true,[lL,c9,c9,dg,dg,dg,Fo,dg,dg,dg,lL,lL,c9,dg,dg,dg,dg,dg,dg,dg],.struct [(0,9),(1,41),(2,41),(3,3),(4,3),(5,3),(6,4),(7,3),(8,44),(13,46),(17,3),(18,3),(19,3)],[]⟩),
 (50,⟨4,32,true,[dg,dg,dg,dg],.struct [(0,3),(1,3),(2,3),(3,3)],[0,0,0,0]⟩),
 (52,⟨6,48,true,[dg,dg,dg,dg,dg,dg],.struct [(0,50),(4,3),(5,3)],[]⟩),
 (54,⟨9,72,true,[dg,dg,dg,dg,dg,dg,dg,dg,Fo],.struct [(0,52),(6,3),(7,3),(8,4)],[]⟩),
 (56,⟨10,80,true,[dg,dg,dg,dg,dg,dg,dg,dg,dg,Fo],.struct [(0,3),(1,54)],[]⟩),
 (67,⟨1,24,false,[c9],.slice 54,[]⟩),
 (69,⟨2,48,true,[c9,c9],.struct [(0,67),(1,35)],[]⟩),
 (70,⟨1,24,false,[c9],.slice 50,[]⟩),
 (71,⟨1,24,false,[c9],.slice 3,[]⟩),
 (73,⟨4,64,true,[dg,dg,c9,c9],.struct [(0,3),(1,3),(2,70),(3,71)],[]⟩),
 (77,⟨3,40,true,[dg,c9,dg],.struct [(0,3),(1,70),(2,3)],[]⟩),
 (81,⟨21,440,true,[c9,c9,c9,c9,c9,c9,c9,dg,c9,c9,c9,c9,c9,dg,dg,c9,c9,dg,c9,c9,c9],.struct [(0,37),(13,73),(17,40),(19,67),(20,41)],[]⟩),
 (89,⟨1,24,false,[c9],.slice 120,[]⟩),
 (93,⟨6,88,true,[lL,dg,dg,lL,lL,c9],.struct [(0,9),(1,44)],[]⟩),
 (95,⟨3,48,true,[lL,c9,dg],.struct [(0,9),(1,35),(2,3)],[]⟩),
 (96,⟨1,24,false,[c9],.slice 170,[]⟩),
 (98,⟨3,48,true,[lL,Fo,c9],.struct [(0,9),(1,4),(2,96)],[]⟩),
 (100,⟨4,56,true,[lL,dg,dg,c9],.struct [(0,9),(1,3),(2,3),(3,96)],[]⟩),
 (113,⟨1,24,false,[c9],.slice 46,[]⟩),
 (120,⟨3,40,true,[dg,dg,c9],.struct [(0,3),(1,3),(2,70)],[]⟩),
 (130,⟨2,24,true,[lL,dg],.struct [(0,9),(1,3)],[2,0]⟩),
 (137,⟨1,8,false,[.map none],.map 9 3,[]⟩),
 (139,⟨10,208,true,[c9,c9,c9,c9,c9,c9,c9,dg,.map none,c9],.struct [(0,30),(8,137),(9,41)],[]⟩),
 (143,⟨1,8,false,[.pointer none],.other,[]⟩),
 (145,⟨10,224,true,[c9,c9,c9,c9,c9,c9,c9,dg,c9,c9],.struct [(0,30),(8,70),(9,67)],[]⟩),
 (147,⟨1,8,false,[.nilFunc],.other,[]⟩),
 (149,⟨2,24,true,[lL,.nilFunc],.struct [(0,9),(1,147)],[]⟩),
 (150,⟨18,216,true,[lL,.nilFunc,lL,.nilFunc,lL,.nilFunc,lL,.nilFunc,lL,.nilFunc,lL,.nilFunc,lL,.nilFunc,lL,.nilFunc,lL,.nilFunc],.arr 9 149,[]⟩),
 (164,⟨1,8,false,[.map none],.map 9 4,[]⟩),
 (170,⟨2,16,true,[dg,dg],.struct [(0,3),(1,3)],[0,0]⟩),
 (194,⟨1,24,false,[c9],.slice 201,[]⟩),
 (199,⟨1,24,false,[c9],.slice 229,[]⟩),
 (201,⟨3,40,true,[dg,dg,c9],.struct [(0,3),(1,3),(2,199)],[]⟩),
 (218,⟨1,8,false,[.int .u64 0],.int .u64,[]⟩),
 (225,⟨4,32,true,[dg,dg,dg,dg],.arr 4 3,[]⟩),
 (229,⟨2,16,true,[dg,dg],.struct [(0,3),(1,3)],[0,0]⟩),
 (230,⟨1,24,false,[c9],.slice 70,[]⟩),
 (241,⟨1,24,false,[c9],.slice 244,[]⟩),
 (244,⟨4,32,true,[dg,dg,dg,dg],.struct [(0,170),(2,170)],[]⟩),
 (245,⟨1,24,false,[c9],.slice 71,[]⟩),
 (247,⟨2,48,true,[c9,c9],.struct [(0,22),(1,245)],[]⟩),
 (251,⟨1,24,false,[c9],.slice 4,[]⟩),
 (261,⟨1,4,false,[.int .u32 0],.int .u32,[]⟩),
 (263,⟨1,8,false,[.int .u64 0],.int .u64,[]⟩),
 (270,⟨6,96,true,[lL,lL,lL,lL,lL,lL],.arr 6 9,[]⟩),
 (274,⟨1,24,false,[c9],.slice 199,[]⟩),
 (288,⟨1,8,false,[.int .u64 0],.int .u64,[]⟩),
 (346,⟨3,24,true,[dg,dg,dg],.struct [(0,3),(1,3),(2,3)],[0,0,0]⟩),
 (348,⟨6,72,true,[lL,dg,dg,dg,dg,c9],.struct [(0,9),(1,346),(4,3),(5,28)],[]⟩),
 (350,⟨4,32,true,[dg,dg,dg,dg],.struct [(0,3),(1,346)],[]⟩)]
def aop:List (TypeId×CT SI):=[(3,(.int .i64)),(4,.bool),(9,.str),(44,(.st SI.Expr)),(46,(.st SI.gi)),(48,(.st SI.Rule)),(50,(.st SI.km)),(54,(.st SI.iS)),(56,(.st SI.ev)),(69,(.st SI.Phase)),(70,(.sl (.st SI.km))),(73,(.st SI.Lot)),(120,(.st SI.ld)),(130,(.st SI.Entry)),(199,(.sl (.st SI.span))),(201,(.st SI.strip)),(229,(.st SI.span)),(244,(.st SI.side))]
def anf:TypeId->Option (CT xx.ι):=lk aop
theorem ang:eZ Tryz.prog (WM tab):=akq (by kernel_rfl)
theorem mixed:Tryz.prog.follows .mixedOrders=true:=Checked.mixed Tryz.checked
theorem cq{f:FuncId}{fn:Func}{l:List (FuncId×bz xx)}(hΓ:rL Tryz.prog (vu l))(hfn:Tryz.prog.funcs[f]? =some fn){s:bz xx}(h:Hn SI)(n:Nat)
 (hq : (fn.body.isSome && !(fn.name == "runtime.NumGoroutine") && decide (s.args.length <= fn.ntmps /\ qP s.args <= 1000 /\ (s.res.filter RT.out).length = qP s.args)) = true := by kernel_rfl) (hg : s.gen = none := by rfl)
 (hr:∀a,run (vu l) (WM tab) anf fn.ntmps n (fn.body.getD .skip) (ul xx s.res) h (vl s.args a) (aoh (WM tab) fn.results.toList s.res)=s.fn a:=by intro _;kernel_rfl):CH Tryz.prog f s:=by
 rw[aJ,aJ]at hq;obtain⟨⟨q1,q2⟩,q3⟩:=hq;have hb:fn.body=some (fn.body.getD .skip):=by
  cases hc:fn.body with
  |none=>rw[hc]at q1;cases q1
  |some c=>rfl
 have hn : (fn.name == "runtime.NumGoroutine") = false := by simpa using q2
 exact xi (nP hfn hb hn) (λ a _ e=>aoi ang mixed hΓ hfn hb hn _ _ (of_decide_eq_true q3) h n ((hr a).trans e)) hg
theorem oa{f:FuncId}{fn:Func}{l:List (FuncId×bz xx)}(hΓ:rL Tryz.prog (vu l))(hfn:Tryz.prog.funcs[f]? =some fn){g:cR xx}(h:Hn SI)(n:Nat)
 (hq : (fn.body.isSome && !(fn.name == "runtime.NumGoroutine") && decide (g.pn.length <= fn.ntmps) && g.yv) = true)
 (hr:∀v,run (vu l) (WM tab) anf fn.ntmps n (fn.body.getD .skip) (VT (X:=xx) (CJ g).vars) h (C6 g v) (am8 (WM tab) fn.results.toList g)=g.fn v):CH Tryz.prog f ⟨[],[.d .bool],λ_=>none,some g⟩:=by
 rw[aJ,aJ,aJ]at hq;obtain⟨⟨⟨q1,q2⟩,q3⟩,q4⟩:=hq;have hb:fn.body=some (fn.body.getD .skip):=by
  cases hc:fn.body with
  |none=>rw[hc]at q1;cases q1
  |some c=>rfl
 have hn : (fn.name == "runtime.NumGoroutine") = false := by simpa using q2
 exact S7 (nP hfn hb hn) (anI ang mixed hΓ hfn hb hn g (of_decide_eq_true q3) q4 h n (λ v _ e=>(hr v).trans e))
theorem gcn:rL Tryz.prog (vu ([]:List (FuncId×bz xx))):=aB
abbrev af:CT SI:=.int .i64
abbrev ax:CT SI:=.st SI.km
abbrev aI:CT SI:=.st SI.iS
abbrev fB:CT SI:=.st SI.gd
abbrev bH:CT SI:=.st SI.Cap
abbrev bq:CT SI:=.st SI.Def
abbrev bg:CT SI:=.st SI.Table
abbrev bC:CT SI:=.st SI.Zone
abbrev bf:CT SI:=.st SI.Rule
abbrev aZ:CT SI:=.st SI.gC
abbrev bD:CT SI:=.st SI.View
abbrev aH(f:Nat)(s:bz xx):Prop:=CH Tryz.prog f s
abbrev gY:=(List fK)×(List bZ)×(List dY)×(List aM)×(List iw)×(List fI)×(List bX)×Int×(List ay)×(List aF)
end Go.Proofs
