import Derived.Test.YtknmfellccjagaaGreatH1
import Derived.Test.YtknmfellccjagaaGreatChecked
namespace Go.Proofs
open Go.Gb Go.RowKit
structure bZ where
 op:Int
 n:Int
 s:ByteArray
 key:ByteArray
 args:(List bZ)
mutual
def sM:bZ->List Tree
 |⟨f0,f1,f2,f3,f4⟩=>[.sc (.int .i64 f0),.sc (.int .i64 f1),.sc (.string f2),.sc (.string f3),.sl (uE f4)]
def uE:List bZ->List (List Tree)
 |[]=>[]
 |x::xs=>sM x::uE xs
end
theorem uF:∀l:U bZ,uE l=l.map sM
 |[]=>rfl
 |x::xs=>by rw[uE,uF xs];rfl
theorem Yd(x:bZ):sM x=[.sc (.int .i64 x.op),.sc (.int .i64 x.n),.sc (.string x.s),.sc (.string x.key),.sl (x.args.map sM)]:=by cases x;simp only[sM,uF]
structure dw where
 name:ByteArray
 zones:(List ByteArray)
 except:(List ByteArray)
 from_:Int
 k9:Int
 B3:Int
 vary:Bool
 kind:Int
 lp:Int
 nq:Int
 np:ByteArray
 ke:ByteArray
 gz:(List bZ)
 i7:Int
 i8:Int
 kf:Int
 kh:Int
 uses:Int
 other:Int
 n:Int
def yH(x:dw):U Tree:=[.sc (.string x.name),.sl (x.zones.map (λ y=>[.sc (.string y)])),.sl (x.except.map (λ y=>[.sc (.string y)])),.sc (.int .i64 x.from_),.sc (.int .i64 x.k9),.sc (.int .i64 x.B3),.sc (.bool x.vary),.sc (.int .i64 x.kind),.sc (.int .i64 x.lp),.sc (.int .i64 x.nq),.sc (.string x.np),.sc (.string x.ke),.sl (x.gz.map sM),.sc (.int .i64 x.i7),.sc (.int .i64 x.i8),.sc (.int .i64 x.kf),.sc (.int .i64 x.kh),.sc (.int .i64 x.uses),.sc (.int .i64 x.other),.sc (.int .i64 x.n)]
structure gZ where
 name:ByteArray
 ju:Int
 mn:Int
 lj:ByteArray
 jn:ByteArray
 ez:(List bZ)
def Fe(x:gZ):U Tree:=[.sc (.string x.name),.sc (.int .i64 x.ju),.sc (.int .i64 x.mn),.sc (.string x.lj),.sc (.string x.jn),.sl (x.ez.map sM)]
structure bG where
 name:ByteArray
 n:Int
 deriving DecidableEq,Inhabited
def Ja(x:bG):U Tree:=[.sc (.string x.name),.sc (.int .i64 x.n)]
structure dD where
 name:ByteArray
 rows:(List bG)
 sY:Int
 deriving DecidableEq,Inhabited
def Jb(x:dD):U Tree:=[.sc (.string x.name),.sl (x.rows.map Ja),.sc (.int .i64 x.sY)]
structure eU where
 x:Int
 y:Int
 deriving DecidableEq,Inhabited
def Ye(x:eU):U Tree:=[.sc (.int .i64 x.x),.sc (.int .i64 x.y)]
structure fO where
 name:ByteArray
 overlay:Bool
 corners:(List eU)
 deriving DecidableEq,Inhabited
def Od(x:fO):U Tree:=[.sc (.string x.name),.sc (.bool x.overlay),.sl (x.corners.map Ye)]
structure jE where
 name:ByteArray
 load:Int
 limit:Int
 corners:(List eU)
 deriving DecidableEq,Inhabited
def Yf(x:jE):U Tree:=[.sc (.string x.name),.sc (.int .i64 x.load),.sc (.int .i64 x.limit),.sl (x.corners.map Ye)]
structure dI where
 x:Int
 y:Int
 z:Int
 deriving DecidableEq,Inhabited
def zi(x:dI):U Tree:=[.sc (.int .i64 x.x),.sc (.int .i64 x.y),.sc (.int .i64 x.z)]
structure iD where
 name:ByteArray
 B8:Int
 B7:Int
 B6:Int
 least:Int
 targets:(List dI)
 deriving DecidableEq,Inhabited
def Oe(x:iD):U Tree:=[.sc (.string x.name),.sc (.int .i64 x.B8),.sc (.int .i64 x.B7),.sc (.int .i64 x.B6),.sc (.int .i64 x.least),.sl (x.targets.map zi)]
structure ax where
 x0:Int
 y0:Int
 x1:Int
 y1:Int
 deriving DecidableEq,Inhabited
def Kl(x:ax):U Tree:=[.sc (.int .i64 x.x0),.sc (.int .i64 x.y0),.sc (.int .i64 x.x1),.sc (.int .i64 x.y1)]
structure j5 where
 id:Int
 owner:Int
 area:(List ax)
 from_:(List Int)
 deriving DecidableEq,Inhabited
def Md(x:j5):U Tree:=[.sc (.int .i64 x.id),.sc (.int .i64 x.owner),.sl (x.area.map Kl),.sl (x.from_.map (λ y=>[.sc (.int .i64 y)]))]
structure jP where
 lot:Int
 area:(List ax)
 top:Int
 deriving DecidableEq,Inhabited
def Jc(x:jP):U Tree:=[.sc (.int .i64 x.lot),.sl (x.area.map Kl),.sc (.int .i64 x.top)]
structure Bc where
 lot:Int
 PB:Int
 PA:Int
 Pu:Int
 deriving DecidableEq,Inhabited
def Q5(x:Bc):U Tree:=[.sc (.int .i64 x.lot),.sc (.int .i64 x.PB),.sc (.int .i64 x.PA),.sc (.int .i64 x.Pu)]
structure iX where
 lot:Int
 ev:Int
 ep:Int
 er:Int
 eo:Int
 ma:Int
 l4:Int
 fj:Int
 mN:Int
 mS:Bool
 deriving DecidableEq,Inhabited
def Q6(x:iX):U Tree:=[.sc (.int .i64 x.lot),.sc (.int .i64 x.ev),.sc (.int .i64 x.ep),.sc (.int .i64 x.er),.sc (.int .i64 x.eo),.sc (.int .i64 x.ma),.sc (.int .i64 x.l4),.sc (.int .i64 x.fj),.sc (.int .i64 x.mN),.sc (.bool x.mS)]
structure gL where
 cw:(List gZ)
 co:(List dD)
 cm:(List fO)
 br:(List dw)
 cx:(List jE)
 cp:(List iD)
 cL:(List dI)
 ct:Int
 land:(List j5)
 cA:(List jP)
 windows:(List Bc)
 built:(List iX)
 base:(List bG)
def Km(x:gL):U Tree:=[.sl (x.cw.map Fe),.sl (x.co.map Jb),.sl (x.cm.map Od),.sl (x.br.map yH),.sl (x.cx.map Yf),.sl (x.cp.map Oe),.sl (x.cL.map zi),.sc (.int .i64 x.ct),.sl (x.land.map Md),.sl (x.cA.map Jc),.sl (x.windows.map Q5),.sl (x.built.map Q6),.sl (x.base.map Ja)]
structure ay where
 bj:Int
 bo:Int
 be:Int
 bk:Int
 ca:Int
 cg:Int
 use:Int
 units:Int
 extra:Bool
 deriving DecidableEq,Inhabited
def Kn(x:ay):U Tree:=[.sc (.int .i64 x.bj),.sc (.int .i64 x.bo),.sc (.int .i64 x.be),.sc (.int .i64 x.bk),.sc (.int .i64 x.ca),.sc (.int .i64 x.cg),.sc (.int .i64 x.use),.sc (.int .i64 x.units),.sc (.bool x.extra)]
structure dF where
 az:(List ay)
 gives:(List bG)
 deriving DecidableEq,Inhabited
def Yg(x:dF):U Tree:=[.sl (x.az.map Kn),.sl (x.gives.map Ja)]
structure aG where
 lot:Int
 phases:(List dF)
 deriving DecidableEq,Inhabited
def aic(x:aG):U Tree:=[.sc (.int .i64 x.lot),.sl (x.phases.map Yg)]
structure qf where
 ga:Int
 fX:Int
 fY:Int
 fW:Int
 z0:Int
 z1:Int
 deriving DecidableEq,Inhabited
def aqd(x:qf):U Tree:=[.sc (.int .i64 x.ga),.sc (.int .i64 x.fX),.sc (.int .i64 x.fY),.sc (.int .i64 x.fW),.sc (.int .i64 x.z0),.sc (.int .i64 x.z1)]
structure aJ where
 from_:Int
 to:Int
 deriving DecidableEq,Inhabited
def ajX(x:aJ):U Tree:=[.sc (.int .i64 x.from_),.sc (.int .i64 x.to)]
structure bD where
 x0:Int
 x1:Int
 column:(List aJ)
 deriving DecidableEq,Inhabited
def am6(x:bD):U Tree:=[.sc (.int .i64 x.x0),.sc (.int .i64 x.x1),.sl (x.column.map ajX)]
structure dh where
 defs:(List gZ)
 tables:(List dD)
 zones:(List fO)
 rules:(List dw)
 caps:(List jE)
 views:(List iD)
 xa:(List dI)
 hours:Int
def aoH(x:dh):U Tree:=[.sl (x.defs.map Fe),.sl (x.tables.map Jb),.sl (x.zones.map Od),.sl (x.rules.map yH),.sl (x.caps.map Yf),.sl (x.views.map Oe),.sl (x.xa.map zi),.sc (.int .i64 x.hours)]
structure j6 where
 mw:Int
 qn:Int
 m9:Int
 vy:Int
 deriving DecidableEq,Inhabited
def aoI(x:j6):U Tree:=[.sc (.int .i64 x.mw),.sc (.int .i64 x.qn),.sc (.int .i64 x.m9),.sc (.int .i64 x.vy)]
structure mZ where
 fR:(List gZ)
 eQ:(List dD)
 ff:(List fO)
 fh:(List dw)
 fS:(List jE)
 fg:(List iD)
 gO:(List dI)
 fi:Int
 ri:(List j5)
 ld:(List jP)
 mT:(List Bc)
 gx:(List iX)
 rj:(List bG)
 tw:Int
 nw:Int
 lh:(List ax)
 pD:(List Int)
 eb:Int
 jj:(List dF)
 az:(List ay)
 zones:(List ByteArray)
def am7(x:mZ):U Tree:=[.sl (x.fR.map Fe),.sl (x.eQ.map Jb),.sl (x.ff.map Od),.sl (x.fh.map yH),.sl (x.fS.map Yf),.sl (x.fg.map Oe),.sl (x.gO.map zi),.sc (.int .i64 x.fi),.sl (x.ri.map Md),.sl (x.ld.map Jc),.sl (x.mT.map Q5),.sl (x.gx.map Q6),.sl (x.rj.map Ja),.sc (.int .i64 x.tw),.sc (.int .i64 x.nw),.sl (x.lh.map Kl),.sl (x.pD.map (λ y=>[.sc (.int .i64 y)])),.sc (.int .i64 x.eb),.sl (x.jj.map Yg),.sl (x.az.map Kn),.sl (x.zones.map (λ y=>[.sc (.string y)]))]
structure apD where
 cw:(List gZ)
 co:(List dD)
 cm:(List fO)
 br:(List dw)
 cx:(List jE)
 cp:(List iD)
 cL:(List dI)
 ct:Int
 area:(List ax)
 az:(List ay)
def aoJ(x:apD):U Tree:=[.sl (x.cw.map Fe),.sl (x.co.map Jb),.sl (x.cm.map Od),.sl (x.br.map yH),.sl (x.cx.map Yf),.sl (x.cp.map Oe),.sl (x.cL.map zi),.sc (.int .i64 x.ct),.sl (x.area.map Kl),.sl (x.az.map Kn)]
structure Ko where
 a0:ByteArray
 a1:ByteArray
 a2:ByteArray
 a3:ByteArray
 a4:ByteArray
 a5:ByteArray
 deriving DecidableEq,Inhabited
def ak9(x:Ko):U Tree:=[.sc (.string x.a0),.sc (.string x.a1),.sc (.string x.a2),.sc (.string x.a3),.sc (.string x.a4),.sc (.string x.a5)]
structure qx where
 defs:(List gZ)
 uses:(List (List Int))
def am8(x:qx):U Tree:=[.sl (x.defs.map Fe),.sl (x.uses.map (λ y=>[.sl (y.map (λ y=>[.sc (.int .i64 y)]))]))]
structure aN where
 z0:Int
 z1:Int
 area:(List ax)
 deriving DecidableEq,Inhabited
def aoK(x:aN):U Tree:=[.sc (.int .i64 x.z0),.sc (.int .i64 x.z1),.sl (x.area.map Kl)]
structure eO where
 side:Int
 base:Int
 num:Int
 den:Int
 deriving DecidableEq,Inhabited
def am9(x:eO):U Tree:=[.sc (.int .i64 x.side),.sc (.int .i64 x.base),.sc (.int .i64 x.num),.sc (.int .i64 x.den)]
structure Og where
 a0:Int
 a1:Int
 a2:Int
 a3:Int
 deriving DecidableEq,Inhabited
def ala(x:Og):U Tree:=[.sc (.int .i64 x.a0),.sc (.int .i64 x.a1),.sc (.int .i64 x.a2),.sc (.int .i64 x.a3)]
structure aD where
 floors:(List Int)
 cost:Int
 deriving DecidableEq,Inhabited
def alb(x:aD):U Tree:=[.sl (x.floors.map (λ y=>[.sc (.int .i64 y)])),.sc (.int .i64 x.cost)]
inductive SI where
 |Expr
 |Rule
 |Def
 |Entry
 |Table
 |jz
 |Zone
 |Cap
 |il
 |View
 |nf
 |Lot
 |eW
 |Window
 |gE
 |pg
 |j9
 |Phase
 |ix
 |wc
 |span
 |strip
 |lP
 |side
 |lf
 |site
 |ov
 |graph
 |s6
 |ia
 |ox
 |Change
 deriving DecidableEq
@[reducible] def TT:SI->Type
 |.Expr=>bZ
 |.Rule=>dw
 |.Def=>gZ
 |.Entry=>bG
 |.Table=>dD
 |.jz=>eU
 |.Zone=>fO
 |.Cap=>jE
 |.il=>dI
 |.View=>iD
 |.nf=>ax
 |.Lot=>j5
 |.eW=>jP
 |.Window=>Bc
 |.gE=>iX
 |.pg=>gL
 |.j9=>ay
 |.Phase=>dF
 |.ix=>aG
 |.wc=>qf
 |.span=>aJ
 |.strip=>bD
 |.lP=>dh
 |.side=>j6
 |.lf=>mZ
 |.site=>apD
 |.ov=>Ko
 |.graph=>qx
 |.s6=>aN
 |.ia=>eO
 |.ox=>Og
 |.Change=>aD
def aq9:(i:SI)->TT i->U Tree
 |.Expr,x=>sM x
 |.Rule,x=>yH x
 |.Def,x=>Fe x
 |.Entry,x=>Ja x
 |.Table,x=>Jb x
 |.jz,x=>Ye x
 |.Zone,x=>Od x
 |.Cap,x=>Yf x
 |.il,x=>zi x
 |.View,x=>Oe x
 |.nf,x=>Kl x
 |.Lot,x=>Md x
 |.eW,x=>Jc x
 |.Window,x=>Q5 x
 |.gE,x=>Q6 x
 |.pg,x=>Km x
 |.j9,x=>Kn x
 |.Phase,x=>Yg x
 |.ix,x=>aic x
 |.wc,x=>aqd x
 |.span,x=>ajX x
 |.strip,x=>am6 x
 |.lP,x=>aoH x
 |.side,x=>aoI x
 |.lf,x=>am7 x
 |.site,x=>aoJ x
 |.ov,x=>ak9 x
 |.graph,x=>am8 x
 |.s6,x=>aoK x
 |.ia,x=>am9 x
 |.ox,x=>ala x
 |.Change,x=>alb x
def se:SE:=⟨SI,inferInstance,TT,aq9⟩
def aqe:SI->U (CT SI)
 |.Expr=>[(.int .i64),(.int .i64),.str,.str,(.sl (.st SI.Expr))]
 |.Rule=>[.str,(.sl .str),(.sl .str),(.int .i64),(.int .i64),(.int .i64),.bool,(.int .i64),(.int .i64),(.int .i64),.str,.str,(.sl (.st SI.Expr)),(.int .i64),(.int .i64),(.int .i64),(.int .i64),(.int .i64),(.int .i64),(.int .i64)]
 |.Def=>[.str,(.int .i64),(.int .i64),.str,.str,(.sl (.st SI.Expr))]
 |.Entry=>[.str,(.int .i64)]
 |.Table=>[.str,(.sl (.st SI.Entry)),(.int .i64)]
 |.jz=>[(.int .i64),(.int .i64)]
 |.Zone=>[.str,.bool,(.sl (.st SI.jz))]
 |.Cap=>[.str,(.int .i64),(.int .i64),(.sl (.st SI.jz))]
 |.il=>[(.int .i64),(.int .i64),(.int .i64)]
 |.View=>[.str,(.int .i64),(.int .i64),(.int .i64),(.int .i64),(.sl (.st SI.il))]
 |.nf=>[(.int .i64),(.int .i64),(.int .i64),(.int .i64)]
 |.Lot=>[(.int .i64),(.int .i64),(.sl (.st SI.nf)),(.sl (.int .i64))]
 |.eW=>[(.int .i64),(.sl (.st SI.nf)),(.int .i64)]
 |.Window=>[(.int .i64),(.int .i64),(.int .i64),(.int .i64)]
 |.gE=>[(.int .i64),(.int .i64),(.int .i64),(.int .i64),(.int .i64),(.int .i64),(.int .i64),(.int .i64),(.int .i64),.bool]
 |.pg=>[(.sl (.st SI.Def)),(.sl (.st SI.Table)),(.sl (.st SI.Zone)),(.sl (.st SI.Rule)),(.sl (.st SI.Cap)),(.sl (.st SI.View)),(.sl (.st SI.il)),(.int .i64),(.sl (.st SI.Lot)),(.sl (.st SI.eW)),(.sl (.st SI.Window)),(.sl (.st SI.gE)),(.sl (.st SI.Entry))]
 |.j9=>[(.int .i64),(.int .i64),(.int .i64),(.int .i64),(.int .i64),(.int .i64),(.int .i64),(.int .i64),.bool]
 |.Phase=>[(.sl (.st SI.j9)),(.sl (.st SI.Entry))]
 |.ix=>[(.int .i64),(.sl (.st SI.Phase))]
 |.wc=>[(.int .i64),(.int .i64),(.int .i64),(.int .i64),(.int .i64),(.int .i64)]
 |.span=>[(.int .i64),(.int .i64)]
 |.strip=>[(.int .i64),(.int .i64),(.sl (.st SI.span))]
 |.lP=>[(.sl (.st SI.Def)),(.sl (.st SI.Table)),(.sl (.st SI.Zone)),(.sl (.st SI.Rule)),(.sl (.st SI.Cap)),(.sl (.st SI.View)),(.sl (.st SI.il)),(.int .i64)]
 |.side=>[(.int .i64),(.int .i64),(.int .i64),(.int .i64)]
 |.lf=>[(.sl (.st SI.Def)),(.sl (.st SI.Table)),(.sl (.st SI.Zone)),(.sl (.st SI.Rule)),(.sl (.st SI.Cap)),(.sl (.st SI.View)),(.sl (.st SI.il)),(.int .i64),(.sl (.st SI.Lot)),(.sl (.st SI.eW)),(.sl (.st SI.Window)),(.sl (.st SI.gE)),(.sl (.st SI.Entry)),(.int .i64),(.int .i64),(.sl (.st SI.nf)),(.sl (.int .i64)),(.int .i64),(.sl (.st SI.Phase)),(.sl (.st SI.j9)),(.sl .str)]
 |.site=>[(.sl (.st SI.Def)),(.sl (.st SI.Table)),(.sl (.st SI.Zone)),(.sl (.st SI.Rule)),(.sl (.st SI.Cap)),(.sl (.st SI.View)),(.sl (.st SI.il)),(.int .i64),(.sl (.st SI.nf)),(.sl (.st SI.j9))]
 |.ov=>[.str,.str,.str,.str,.str,.str]
 |.graph=>[(.sl (.st SI.Def)),(.sl (.sl (.int .i64)))]
 |.s6=>[(.int .i64),(.int .i64),(.sl (.st SI.nf))]
 |.ia=>[(.int .i64),(.int .i64),(.int .i64),(.int .i64)]
 |.ox=>[(.int .i64),(.int .i64),(.int .i64),(.int .i64)]
 |.Change=>[(.sl (.int .i64)),(.int .i64)]
def ara:(i:SI)->TT i->HL se (aqe i)
 |.Expr,x=>(x.op,x.n,x.s,x.key,x.args,())
 |.Rule,x=>(x.name,x.zones,x.except,x.from_,x.k9,x.B3,x.vary,x.kind,x.lp,x.nq,x.np,x.ke,x.gz,x.i7,x.i8,x.kf,x.kh,x.uses,x.other,x.n,())
 |.Def,x=>(x.name,x.ju,x.mn,x.lj,x.jn,x.ez,())
 |.Entry,x=>(x.name,x.n,())
 |.Table,x=>(x.name,x.rows,x.sY,())
 |.jz,x=>(x.x,x.y,())
 |.Zone,x=>(x.name,x.overlay,x.corners,())
 |.Cap,x=>(x.name,x.load,x.limit,x.corners,())
 |.il,x=>(x.x,x.y,x.z,())
 |.View,x=>(x.name,x.B8,x.B7,x.B6,x.least,x.targets,())
 |.nf,x=>(x.x0,x.y0,x.x1,x.y1,())
 |.Lot,x=>(x.id,x.owner,x.area,x.from_,())
 |.eW,x=>(x.lot,x.area,x.top,())
 |.Window,x=>(x.lot,x.PB,x.PA,x.Pu,())
 |.gE,x=>(x.lot,x.ev,x.ep,x.er,x.eo,x.ma,x.l4,x.fj,x.mN,x.mS,())
 |.pg,x=>(x.cw,x.co,x.cm,x.br,x.cx,x.cp,x.cL,x.ct,x.land,x.cA,x.windows,x.built,x.base,())
 |.j9,x=>(x.bj,x.bo,x.be,x.bk,x.ca,x.cg,x.use,x.units,x.extra,())
 |.Phase,x=>(x.az,x.gives,())
 |.ix,x=>(x.lot,x.phases,())
 |.wc,x=>(x.ga,x.fX,x.fY,x.fW,x.z0,x.z1,())
 |.span,x=>(x.from_,x.to,())
 |.strip,x=>(x.x0,x.x1,x.column,())
 |.lP,x=>(x.defs,x.tables,x.zones,x.rules,x.caps,x.views,x.xa,x.hours,())
 |.side,x=>(x.mw,x.qn,x.m9,x.vy,())
 |.lf,x=>(x.fR,x.eQ,x.ff,x.fh,x.fS,x.fg,x.gO,x.fi,x.ri,x.ld,x.mT,x.gx,x.rj,x.tw,x.nw,x.lh,x.pD,x.eb,x.jj,x.az,x.zones,())
 |.site,x=>(x.cw,x.co,x.cm,x.br,x.cx,x.cp,x.cL,x.ct,x.area,x.az,())
 |.ov,x=>(x.a0,x.a1,x.a2,x.a3,x.a4,x.a5,())
 |.graph,x=>(x.defs,x.uses,())
 |.s6,x=>(x.z0,x.z1,x.area,())
 |.ia,x=>(x.side,x.base,x.num,x.den,())
 |.ox,x=>(x.a0,x.a1,x.a2,x.a3,())
 |.Change,x=>(x.floors,x.cost,())
def aqP:(i:SI)->HL se (aqe i)->TT i
 |.Expr,(qa,qb,qc,qd,qe,_)=>⟨qa,qb,qc,qd,qe⟩
 |.Rule,(qa,qb,qc,qd,qe,qf,qg,qh,qi,qj,qk,ql,qm,qn,qo,qp,qq,qr,qs,qt,_)=>⟨qa,qb,qc,qd,qe,qf,qg,qh,qi,qj,qk,ql,qm,qn,qo,qp,qq,qr,qs,qt⟩
 |.Def,(qa,qb,qc,qd,qe,qf,_)=>⟨qa,qb,qc,qd,qe,qf⟩
 |.Entry,h=>⟨h.1,h.2.1⟩
 |.Table,h=>⟨h.1,h.2.1,h.2.2.1⟩
 |.jz,h=>⟨h.1,h.2.1⟩
 |.Zone,h=>⟨h.1,h.2.1,h.2.2.1⟩
 |.Cap,(qa,qb,qc,qd,_)=>⟨qa,qb,qc,qd⟩
 |.il,h=>⟨h.1,h.2.1,h.2.2.1⟩
 |.View,(qa,qb,qc,qd,qe,qf,_)=>⟨qa,qb,qc,qd,qe,qf⟩
 |.nf,(qa,qb,qc,qd,_)=>⟨qa,qb,qc,qd⟩
 |.Lot,(qa,qb,qc,qd,_)=>⟨qa,qb,qc,qd⟩
 |.eW,h=>⟨h.1,h.2.1,h.2.2.1⟩
 |.Window,(qa,qb,qc,qd,_)=>⟨qa,qb,qc,qd⟩
 |.gE,(qa,qb,qc,qd,qe,qf,qg,qh,qi,qj,_)=>⟨qa,qb,qc,qd,qe,qf,qg,qh,qi,qj⟩
 |.pg,(qa,qb,qc,qd,qe,qf,qg,qh,qi,qj,qk,ql,qm,_)=>⟨qa,qb,qc,qd,qe,qf,qg,qh,qi,qj,qk,ql,qm⟩
 |.j9,(qa,qb,qc,qd,qe,qf,qg,qh,qi,_)=>⟨qa,qb,qc,qd,qe,qf,qg,qh,qi⟩
 |.Phase,h=>⟨h.1,h.2.1⟩
 |.ix,h=>⟨h.1,h.2.1⟩
 |.wc,(qa,qb,qc,qd,qe,qf,_)=>⟨qa,qb,qc,qd,qe,qf⟩
 |.span,h=>⟨h.1,h.2.1⟩
 |.strip,h=>⟨h.1,h.2.1,h.2.2.1⟩
 |.lP,(qa,qb,qc,qd,qe,qf,qg,qh,_)=>⟨qa,qb,qc,qd,qe,qf,qg,qh⟩
 |.side,(qa,qb,qc,qd,_)=>⟨qa,qb,qc,qd⟩
 |.lf,(qa,qb,qc,qd,qe,qf,qg,qh,qi,qj,qk,ql,qm,qn,qo,qp,qq,qr,qs,qt,qu,_)=>⟨qa,qb,qc,qd,qe,qf,qg,qh,qi,qj,qk,ql,qm,qn,qo,qp,qq,qr,qs,qt,qu⟩
 |.site,(qa,qb,qc,qd,qe,qf,qg,qh,qi,qj,_)=>⟨qa,qb,qc,qd,qe,qf,qg,qh,qi,qj⟩
 |.ov,(qa,qb,qc,qd,qe,qf,_)=>⟨qa,qb,qc,qd,qe,qf⟩
 |.graph,h=>⟨h.1,h.2.1⟩
 |.s6,h=>⟨h.1,h.2.1,h.2.2.1⟩
 |.ia,(qa,qb,qc,qd,_)=>⟨qa,qb,qc,qd⟩
 |.ox,(qa,qb,qc,qd,_)=>⟨qa,qb,qc,qd⟩
 |.Change,h=>⟨h.1,h.2.1⟩
def gvS:Nat->J ((c:CT SI)×CT.T se c):=λ_=>none
def xx:SX:={ toSE:=se,de:=aqe,get:=ara,make:=aqP,pj:=by intro i x;cases i<;>first|rfl|exact Yd _,gS:=by intro i h;cases i<;>first|rfl|exact Yd _,flat:=by intro i;cases i<;>rfl,gv:=gvS,BY:=λ_=>rfl }
abbrev da:Value:=.slice none 0 0
abbrev dC:Value:=.int .i64 0
abbrev JT:Value:=.bool false
abbrev mC:Value:=.string ⟨#[]⟩
def tab:U (TypeId×p5):=[
 (3,⟨1,8,false,[dC],.int .i64,[]⟩),
 (4,⟨1,1,false,[JT],.bool,[]⟩),
 (9,⟨1,16,false,[mC],.str,[]⟩),
 (22,⟨1,24,false,[da],.slice 63,[]⟩),
 (24,⟨2,32,true,[dC,da],.struct [(0,3),(1,22)],[]⟩),
 (25,⟨1,24,false,[da],.slice 3,[]⟩),
 (28,⟨1,24,false,[da],.slice 122,[]⟩),
 (29,⟨1,24,false,[da],.slice 129,[]⟩),
 (30,⟨1,24,false,[da],.slice 125,[]⟩),
 (31,⟨1,24,false,[da],.slice 107,[]⟩),
 (32,⟨1,24,false,[da],.slice 127,[]⟩),
 (33,⟨1,24,false,[da],.slice 384,[]⟩),
 (34,⟨1,24,false,[da],.slice 382,[]⟩),
 (36,⟨8,176,true,[da,da,da,da,da,da,da,dC],.struct [(0,28),(1,29),(2,30),(3,31),(4,32),(5,33),(6,34),(7,3)],[]⟩),
 (37,⟨1,24,false,[da],.slice 73,[]⟩),
 (38,⟨1,24,false,[da],.slice 75,[]⟩),
 (39,⟨1,24,false,[da],.slice 386,[]⟩),
 (40,⟨1,24,false,[da],.slice 230,[]⟩),
 (41,⟨1,24,false,[da],.slice 81,[]⟩),
 (43,⟨13,296,true,[da,da,da,da,da,da,da,dC,da,da,da,da,da],.struct [(0,36),(8,37),(9,38),(10,39),(11,40),(12,41)],[]⟩),
 (47,⟨1,24,false,[da],.slice 98,[]⟩),
 (58,⟨2,32,true,[da,dC],.struct [(0,25),(1,3)],[]⟩),
 (61,⟨1,24,false,[da],.slice 69,[]⟩),
 (63,⟨2,48,true,[da,da],.struct [(0,61),(1,41)],[]⟩),
 (65,⟨4,32,true,[dC,dC,dC,dC],.struct [(0,3),(1,3),(2,3),(3,3)],[0,0,0,0]⟩),
 (67,⟨6,48,true,[dC,dC,dC,dC,dC,dC],.struct [(0,65),(4,3),(5,3)],[]⟩),
 (69,⟨9,72,true,[dC,dC,dC,dC,dC,dC,dC,dC,JT],.struct [(0,67),(6,3),(7,3),(8,4)],[0,0,0,0,0,0,0,0,1]⟩),
 (71,⟨1,24,false,[da],.slice 65,[]⟩),
 (73,⟨4,64,true,[dC,dC,da,da],.struct [(0,3),(1,3),(2,71),(3,25)],[]⟩),
 (75,⟨3,40,true,[dC,da,dC],.struct [(0,3),(1,71),(2,3)],[]⟩),
 (81,⟨2,24,true,[mC,dC],.struct [(0,9),(1,3)],[2,0]⟩),
 (83,⟨1,24,false,[da],.slice 67,[]⟩),
 (89,⟨1,8,false,[.map none],.map 9 4,[]⟩),
 (98,⟨3,40,true,[dC,dC,da],.struct [(0,3),(1,3),(2,71)],[]⟩),
 (100,⟨1,24,false,[da],.slice 9,[]⟩),
 (101,⟨1,24,false,[da],.slice 103,[]⟩),
 (103,⟨5,72,true,[dC,dC,mC,mC,da],.struct [(0,3),(1,3),(2,9),(3,9),(4,101)],[]⟩),
 (105,⟨4,32,true,[dC,dC,dC,dC],.struct [(0,3),(1,3),(2,3),(3,3)],[0,0,0,0]⟩),
 (107,⟨20,232,true,[mC,da,da,dC,dC,dC,JT,dC,dC,dC,mC,mC,da,dC,dC,dC,dC,dC,dC,dC],.struct [(0,9),(1,100),(2,100),(3,3),(4,3),(5,3),(6,4),(7,3),(8,103),(13,105),(17,3),(18,3),(19,3)],[]⟩),
 (112,⟨1,24,false,[da],.slice 58,[]⟩),
 (122,⟨6,88,true,[mC,dC,dC,mC,mC,da],.struct [(0,9),(1,103)],[]⟩),
 (123,⟨1,24,false,[da],.slice 259,[]⟩),
 (125,⟨3,48,true,[mC,JT,da],.struct [(0,9),(1,4),(2,123)],[]⟩),
 (127,⟨4,56,true,[mC,dC,dC,da],.struct [(0,9),(1,3),(2,3),(3,123)],[]⟩),
 (129,⟨3,48,true,[mC,da,dC],.struct [(0,9),(1,41),(2,3)],[]⟩),
 (146,⟨21,440,true,[da,da,da,da,da,da,da,dC,da,da,da,da,da,dC,dC,da,da,dC,da,da,da],.struct [(0,43),(13,73),(17,24),(19,61),(20,100)],[]⟩),
 (160,⟨1,24,false,[da],.slice 47,[]⟩),
 (163,⟨1,24,false,[da],.slice 171,[]⟩),
 (169,⟨1,24,false,[da],.slice 197,[]⟩),
 (171,⟨3,40,true,[dC,dC,da],.struct [(0,3),(1,3),(2,169)],[]⟩),
 (184,⟨1,24,false,[da],.slice 105,[]⟩),
 (194,⟨1,8,false,[.int .u64 0],.int .u64,[]⟩),
 (197,⟨2,16,true,[dC,dC],.struct [(0,3),(1,3)],[0,0]⟩),
 (198,⟨1,24,false,[da],.slice 71,[]⟩),
 (213,⟨1,8,false,[.map none],.map 9 3,[]⟩),
 (215,⟨10,208,true,[da,da,da,da,da,da,da,dC,.map none,da],.struct [(0,36),(8,213),(9,100)],[]⟩),
 (219,⟨1,8,false,[.pointer none],.other,[]⟩),
 (221,⟨10,224,true,[da,da,da,da,da,da,da,dC,da,da],.struct [(0,36),(8,71),(9,61)],[]⟩),
 (222,⟨1,8,false,[.nilFunc],.other,[]⟩),
 (224,⟨2,24,true,[mC,.nilFunc],.struct [(0,9),(1,222)],[]⟩),
 (225,⟨18,216,true,[mC,.nilFunc,mC,.nilFunc,mC,.nilFunc,mC,.nilFunc,mC,.nilFunc,mC,.nilFunc,mC,.nilFunc,mC,.nilFunc,mC,.nilFunc],.arr 9 224,[]⟩),
 (230,⟨10,80,true,[dC,dC,dC,dC,dC,dC,dC,dC,dC,JT],.struct [(0,3),(1,69)],[]⟩),
 (252,⟨1,24,false,[da],.slice 169,[]⟩),
 (259,⟨2,16,true,[dC,dC],.struct [(0,3),(1,3)],[0,0]⟩),
 (304,⟨4,32,true,[dC,dC,dC,dC],.arr 4 3,[]⟩),
 (314,⟨1,24,false,[da],.slice 317,[]⟩),
 (317,⟨4,32,true,[dC,dC,dC,dC],.struct [(0,259),(2,259)],[]⟩),
 (318,⟨1,24,false,[da],.slice 25,[]⟩),
 (320,⟨2,48,true,[da,da],.struct [(0,28),(1,318)],[]⟩),
 (324,⟨1,24,false,[da],.slice 4,[]⟩),
 (331,⟨6,96,true,[mC,mC,mC,mC,mC,mC],.arr 6 9,[]⟩),
 (382,⟨3,24,true,[dC,dC,dC],.struct [(0,3),(1,3),(2,3)],[0,0,0]⟩),
 (384,⟨6,72,true,[mC,dC,dC,dC,dC,da],.struct [(0,9),(1,382),(4,3),(5,34)],[]⟩),
 (386,⟨4,32,true,[dC,dC,dC,dC],.struct [(0,3),(1,382)],[]⟩)]
def aqQ:U (TypeId×CT SI):=[(3,(.int .i64)),(4,.bool),(9,.str),(47,(.sl (.st SI.s6))),(58,(.st SI.Change)),(63,(.st SI.Phase)),(65,(.st SI.nf)),(67,(.st SI.wc)),(69,(.st SI.j9)),(71,(.sl (.st SI.nf))),(73,(.st SI.Lot)),(81,(.st SI.Entry)),(98,(.st SI.s6)),(103,(.st SI.Expr)),(105,(.st SI.ia)),(107,(.st SI.Rule)),(169,(.sl (.st SI.span))),(171,(.st SI.strip)),(197,(.st SI.span)),(317,(.st SI.side))]
def US:TypeId->J (CT xx.ι):=lk aqQ
theorem UP:fB Tryz.prog (WU tab):=ame (by kernel_rfl)
theorem mixed:Tryz.prog.follows .mixedOrders=true:=Checked.mixed Tryz.checked
theorem cq{f:FuncId}{fn:Func}{l:U (FuncId×ci xx)}(hΓ:qq Tryz.prog (z7 l))(hfn:Tryz.prog.funcs[f]? =some fn){s:ci xx}(h:Hn SI)(n:Nat)
 (hq : (fn.body.isSome && !(fn.name == "runtime.NumGoroutine") && decide (s.args.length <= fn.ntmps /\ wW s.args <= 1000 /\ (s.res.filter RT.out).length = wW s.args)) = true := by kernel_rfl) (hg : s.gen = none := by rfl)
 (hr:∀a,run (z7 l) (WU tab) US fn.ntmps n (fn.body.getD .skip) (uh xx s.res) h (DD s.args a) (aqC (WU tab) fn.results.toList s.res)=s.fn a:=by intro _;kernel_rfl):C3 Tryz.prog f s:=by
 rw[aX,aX]at hq;obtain⟨⟨q1,q2⟩,q3⟩:=hq;have hb:fn.body=some (fn.body.getD .skip):=by
  cases hc:fn.body with
  |none=>rw[hc]at q1;cases q1
  |some c=>rfl
 have hn : (fn.name == "runtime.NumGoroutine") = false := by simpa using q2
 exact At (qp hfn hb hn) (λ a _ e=>aqD UP mixed hΓ hfn hb hn _ _ (of_decide_eq_true q3) h n ((hr a).trans e)) hg
abbrev tzG(g:cQ xx):ci xx:=⟨[],[.d .bool],λ_=>none,some g⟩
theorem oB{f:FuncId}{fn:Func}{l:U (FuncId×ci xx)}(hΓ:qq Tryz.prog (z7 l))(hfn:Tryz.prog.funcs[f]? =some fn){g:cQ xx}(h:Hn SI)(n:Nat)
 (hq : (fn.body.isSome && !(fn.name == "runtime.NumGoroutine") && decide (g.m5.length <= fn.ntmps) && g.DE) = true:=by kernel_rfl)
 (hr:∀v,run (z7 l) (WU tab) US fn.ntmps n (fn.body.getD .skip) (VT (X:=xx) (xg g).vars) h (NT g v) (UV (WU tab) fn.results.toList g)=g.fn v:=by intro _;kernel_rfl):C3 Tryz.prog f ⟨[],[.d .bool],λ_=>none,some g⟩:=by
 rw[aX,aX,aX]at hq;obtain⟨⟨⟨q1,q2⟩,q3⟩,q4⟩:=hq;have hb:fn.body=some (fn.body.getD .skip):=by
  cases hc:fn.body with
  |none=>rw[hc]at q1;cases q1
  |some c=>rfl
 have hn : (fn.name == "runtime.NumGoroutine") = false := by simpa using q2
 exact S0 (qp hfn hb hn) (apZ UP mixed hΓ hfn hb hn g (of_decide_eq_true q3) q4 h n (λ v _ e=>(hr v).trans e))
theorem gcn:qq Tryz.prog (z7 ([]:U (FuncId×ci xx))):=aC
abbrev af:CT SI:=.int .i64
abbrev aZ:CT SI:=.st SI.Rule
abbrev bE:CT SI:=.st SI.Def
abbrev fU:CT SI:=.st SI.Entry
abbrev aW:CT SI:=.st SI.Table
abbrev bH:CT SI:=.st SI.Zone
abbrev bJ:CT SI:=.st SI.Cap
abbrev aS:CT SI:=.st SI.il
abbrev bI:CT SI:=.st SI.View
abbrev aA:CT SI:=.st SI.nf
abbrev aF:CT SI:=.st SI.j9
abbrev dm:CT SI:=.st SI.ix
abbrev bU:CT SI:=.st SI.s6
abbrev aM:CT SI:=.st SI.Change
abbrev aH(f:Nat)(s:ci xx):Prop:=C3 Tryz.prog f s
abbrev iO:=(List gZ)×(List dD)×(List fO)×(List dw)×(List jE)×(List iD)×(List dI)×Int×(List ax)×(List ay)
end Go.Proofs
