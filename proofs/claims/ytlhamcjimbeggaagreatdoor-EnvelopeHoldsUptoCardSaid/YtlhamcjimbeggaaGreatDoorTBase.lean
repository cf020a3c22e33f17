import Derived.Test.YtlhamcjimbeggaaGreatDoorH1
import Derived.Test.YtlhamcjimbeggaaGreatDoorChecked
namespace Go.Proofs
open Go.Gb Go.RowKit
structure dD where
 op:Int
 n:Int
 s:ByteArray
 key:ByteArray
 args:(List dD)
mutual
def tJ:dD->List Tree
 |⟨f0,f1,f2,f3,f4⟩=>[.sc (.int .i64 f0),.sc (.int .i64 f1),.sc (.string f2),.sc (.string f3),.sl (u7 f4)]
def u7:List dD->List (List Tree)
 |[]=>[]
 |x::xs=>tJ x::u7 xs
end
theorem ve:∀l:U dD,u7 l=l.map tJ
 |[]=>rfl
 |x::xs=>by rw[u7,ve xs];rfl
theorem Y9(x:dD):tJ x=[.sc (.int .i64 x.op),.sc (.int .i64 x.n),.sc (.string x.s),.sc (.string x.key),.sl (x.args.map tJ)]:=by cases x;simp only[tJ,ve]
structure iQ where
 name:ByteArray
 lr:Int
 pC:Int
 m7:ByteArray
 li:ByteArray
 gh:(List dD)
def Gc(x:iQ):U Tree:=[.sc (.string x.name),.sc (.int .i64 x.lr),.sc (.int .i64 x.pC),.sc (.string x.m7),.sc (.string x.li),.sl (x.gh.map tJ)]
structure bZ where
 name:ByteArray
 n:Int
 deriving DecidableEq,Inhabited
def Ak(x:bZ):U Tree:=[.sc (.string x.name),.sc (.int .i64 x.n)]
structure dX where
 name:ByteArray
 rows:(List bZ)
 sY:Int
 deriving DecidableEq,Inhabited
def xU(x:dX):U Tree:=[.sc (.string x.name),.sl (x.rows.map Ak),.sc (.int .i64 x.sY)]
structure eZ where
 x:Int
 y:Int
 deriving DecidableEq,Inhabited
def Za(x:eZ):U Tree:=[.sc (.int .i64 x.x),.sc (.int .i64 x.y)]
structure gm where
 name:ByteArray
 overlay:Bool
 corners:(List eZ)
 deriving DecidableEq,Inhabited
def PS(x:gm):U Tree:=[.sc (.string x.name),.sc (.bool x.overlay),.sl (x.corners.map Za)]
structure bO where
 name:ByteArray
 zones:(List ByteArray)
 except:(List ByteArray)
 from_:Int
 k7:Int
 AM:Int
 vary:Bool
 kind:Int
 ga:Int
 rh:Int
 rb:ByteArray
 my:ByteArray
 cM:(List dD)
 eM:Int
 eQ:Int
 fi:Int
 fj:Int
 uses:Int
 other:Int
 n:Int
def y9(x:bO):U Tree:=[.sc (.string x.name),.sl (x.zones.map (λ y=>[.sc (.string y)])),.sl (x.except.map (λ y=>[.sc (.string y)])),.sc (.int .i64 x.from_),.sc (.int .i64 x.k7),.sc (.int .i64 x.AM),.sc (.bool x.vary),.sc (.int .i64 x.kind),.sc (.int .i64 x.ga),.sc (.int .i64 x.rh),.sc (.string x.rb),.sc (.string x.my),.sl (x.cM.map tJ),.sc (.int .i64 x.eM),.sc (.int .i64 x.eQ),.sc (.int .i64 x.fi),.sc (.int .i64 x.fj),.sc (.int .i64 x.uses),.sc (.int .i64 x.other),.sc (.int .i64 x.n)]
structure j5 where
 name:ByteArray
 load:Int
 limit:Int
 corners:(List eZ)
 deriving DecidableEq,Inhabited
def Nz(x:j5):U Tree:=[.sc (.string x.name),.sc (.int .i64 x.load),.sc (.int .i64 x.limit),.sl (x.corners.map Za)]
structure d9 where
 x:Int
 y:Int
 z:Int
 deriving DecidableEq,Inhabited
def zO(x:d9):U Tree:=[.sc (.int .i64 x.x),.sc (.int .i64 x.y),.sc (.int .i64 x.z)]
structure jd where
 name:ByteArray
 A0:Int
 AW:Int
 AS:Int
 least:Int
 targets:(List d9)
 deriving DecidableEq,Inhabited
def PU(x:jd):U Tree:=[.sc (.string x.name),.sc (.int .i64 x.A0),.sc (.int .i64 x.AW),.sc (.int .i64 x.AS),.sc (.int .i64 x.least),.sl (x.targets.map zO)]
structure aj where
 x0:Int
 y0:Int
 x1:Int
 y1:Int
 deriving DecidableEq,Inhabited
def kD(x:aj):U Tree:=[.sc (.int .i64 x.x0),.sc (.int .i64 x.y0),.sc (.int .i64 x.x1),.sc (.int .i64 x.y1)]
structure j6 where
 id:Int
 owner:Int
 area:(List aj)
 from_:(List Int)
 deriving DecidableEq,Inhabited
def NA(x:j6):U Tree:=[.sc (.int .i64 x.id),.sc (.int .i64 x.owner),.sl (x.area.map kD),.sl (x.from_.map (λ y=>[.sc (.int .i64 y)]))]
structure dI where
 lot:Int
 area:(List aj)
 top:Int
 deriving DecidableEq,Inhabited
def JQ(x:dI):U Tree:=[.sc (.int .i64 x.lot),.sl (x.area.map kD),.sc (.int .i64 x.top)]
structure Xc where
 lot:Int
 Mb:Int
 L7:Int
 L5:Int
 deriving DecidableEq,Inhabited
def Sn(x:Xc):U Tree:=[.sc (.int .i64 x.lot),.sc (.int .i64 x.Mb),.sc (.int .i64 x.L7),.sc (.int .i64 x.L5)]
structure kE where
 lot:Int
 eK:Int
 eI:Int
 eJ:Int
 eE:Int
 lL:Int
 lE:Int
 gb:Int
 mm:Int
 mn:Bool
 deriving DecidableEq,Inhabited
def Sq(x:kE):U Tree:=[.sc (.int .i64 x.lot),.sc (.int .i64 x.eK),.sc (.int .i64 x.eI),.sc (.int .i64 x.eJ),.sc (.int .i64 x.eE),.sc (.int .i64 x.lL),.sc (.int .i64 x.lE),.sc (.int .i64 x.gb),.sc (.int .i64 x.mm),.sc (.bool x.mn)]
structure dK where
 cz:(List iQ)
 cm:(List dX)
 bu:(List gm)
 aw:(List bO)
 cH:(List j5)
 cI:(List jd)
 cV:(List d9)
 cJ:Int
 land:(List j6)
 bz:(List dI)
 windows:(List Xc)
 built:(List kE)
 base:(List bZ)
def Ca(x:dK):U Tree:=[.sl (x.cz.map Gc),.sl (x.cm.map xU),.sl (x.bu.map PS),.sl (x.aw.map y9),.sl (x.cH.map Nz),.sl (x.cI.map PU),.sl (x.cV.map zO),.sc (.int .i64 x.cJ),.sl (x.land.map NA),.sl (x.bz.map JQ),.sl (x.windows.map Sn),.sl (x.built.map Sq),.sl (x.base.map Ak)]
structure aN where
 from_:Int
 to:Int
 deriving DecidableEq,Inhabited
def ak0(x:aN):U Tree:=[.sc (.int .i64 x.from_),.sc (.int .i64 x.to)]
structure aV where
 x0:Int
 x1:Int
 column:(List aN)
 deriving DecidableEq,Inhabited
def aoe(x:aV):U Tree:=[.sc (.int .i64 x.x0),.sc (.int .i64 x.x1),.sl (x.column.map ak0)]
structure kg where
 mf:Int
 p4:Int
 mA:Int
 vn:Int
 deriving DecidableEq,Inhabited
def apP(x:kg):U Tree:=[.sc (.int .i64 x.mf),.sc (.int .i64 x.p4),.sc (.int .i64 x.mA),.sc (.int .i64 x.vn)]
structure dJ where
 defs:(List iQ)
 tables:(List dX)
 zones:(List gm)
 rules:(List bO)
 caps:(List j5)
 views:(List jd)
 tf:(List d9)
 hours:Int
def apQ(x:dJ):U Tree:=[.sl (x.defs.map Gc),.sl (x.tables.map xU),.sl (x.zones.map PS),.sl (x.rules.map y9),.sl (x.caps.map Nz),.sl (x.views.map PU),.sl (x.tf.map zO),.sc (.int .i64 x.hours)]
structure cZ where
 from_:Int
 to:Int
 deriving DecidableEq,Inhabited
def EC(x:cZ):U Tree:=[.sc (.int .i64 x.from_),.sc (.int .i64 x.to)]
structure dh where
 x0:Int
 x1:Int
 column:(List cZ)
 deriving DecidableEq,Inhabited
def PV(x:dh):U Tree:=[.sc (.int .i64 x.x0),.sc (.int .i64 x.x1),.sl (x.column.map EC)]
structure bU where
 side:Int
 base:Int
 num:Int
 den:Int
 deriving DecidableEq,Inhabited
def aof(x:bU):U Tree:=[.sc (.int .i64 x.side),.sc (.int .i64 x.base),.sc (.int .i64 x.num),.sc (.int .i64 x.den)]
structure fu where
 z0:Int
 z1:Int
 area:(List aj)
 deriving DecidableEq,Inhabited
def apR(x:fu):U Tree:=[.sc (.int .i64 x.z0),.sc (.int .i64 x.z1),.sl (x.area.map kD)]
structure aF where
 b9:Int
 cy:Int
 b8:Int
 cw:Int
 ev:Int
 de:Int
 use:Int
 units:Int
 extra:Bool
 deriving DecidableEq,Inhabited
def Lm(x:aF):U Tree:=[.sc (.int .i64 x.b9),.sc (.int .i64 x.cy),.sc (.int .i64 x.b8),.sc (.int .i64 x.cw),.sc (.int .i64 x.ev),.sc (.int .i64 x.de),.sc (.int .i64 x.use),.sc (.int .i64 x.units),.sc (.bool x.extra)]
structure pu where
 cP:(List aF)
 gives:(List bZ)
 deriving DecidableEq,Inhabited
def Zb(x:pu):U Tree:=[.sl (x.cP.map Lm),.sl (x.gives.map Ak)]
structure bL where
 lot:Int
 phases:(List pu)
 deriving DecidableEq,Inhabited
def ajh(x:bL):U Tree:=[.sc (.int .i64 x.lot),.sl (x.phases.map Zb)]
structure Fo where
 oY:Int
 oS:Int
 oX:Int
 oR:Int
 z0:Int
 z1:Int
 deriving DecidableEq,Inhabited
def ard(x:Fo):U Tree:=[.sc (.int .i64 x.oY),.sc (.int .i64 x.oS),.sc (.int .i64 x.oX),.sc (.int .i64 x.oR),.sc (.int .i64 x.z0),.sc (.int .i64 x.z1)]
structure nO where
 gp:(List iQ)
 fh:(List dX)
 fS:(List gm)
 fX:(List bO)
 gx:(List j5)
 fW:(List jd)
 ia:(List d9)
 fY:Int
 qq:(List j6)
 k8:(List dI)
 mw:(List Xc)
 gR:(List kE)
 qr:(List bZ)
 tj:Int
 m5:Int
 lf:(List aj)
 pg:(List Int)
 ek:Int
 jn:(List pu)
 cP:(List aF)
 zones:(List ByteArray)
def aog(x:nO):U Tree:=[.sl (x.gp.map Gc),.sl (x.fh.map xU),.sl (x.fS.map PS),.sl (x.fX.map y9),.sl (x.gx.map Nz),.sl (x.fW.map PU),.sl (x.ia.map zO),.sc (.int .i64 x.fY),.sl (x.qq.map NA),.sl (x.k8.map JQ),.sl (x.mw.map Sn),.sl (x.gR.map Sq),.sl (x.qr.map Ak),.sc (.int .i64 x.tj),.sc (.int .i64 x.m5),.sl (x.lf.map kD),.sl (x.pg.map (λ y=>[.sc (.int .i64 y)])),.sc (.int .i64 x.ek),.sl (x.jn.map Zb),.sl (x.cP.map Lm),.sl (x.zones.map (λ y=>[.sc (.string y)]))]
structure aqD where
 cz:(List iQ)
 cm:(List dX)
 bu:(List gm)
 aw:(List bO)
 cH:(List j5)
 cI:(List jd)
 cV:(List d9)
 cJ:Int
 area:(List aj)
 cP:(List aF)
def apS(x:aqD):U Tree:=[.sl (x.cz.map Gc),.sl (x.cm.map xU),.sl (x.bu.map PS),.sl (x.aw.map y9),.sl (x.cH.map Nz),.sl (x.cI.map PU),.sl (x.cV.map zO),.sc (.int .i64 x.cJ),.sl (x.area.map kD),.sl (x.cP.map Lm)]
structure Lp where
 a0:ByteArray
 a1:ByteArray
 a2:ByteArray
 a3:ByteArray
 a4:ByteArray
 a5:ByteArray
 deriving DecidableEq,Inhabited
def al8(x:Lp):U Tree:=[.sc (.string x.a0),.sc (.string x.a1),.sc (.string x.a2),.sc (.string x.a3),.sc (.string x.a4),.sc (.string x.a5)]
structure qO where
 defs:(List iQ)
 uses:(List (List Int))
def aoh(x:qO):U Tree:=[.sl (x.defs.map Gc),.sl (x.uses.map (λ y=>[.sl (y.map (λ y=>[.sc (.int .i64 y)]))]))]
structure PW where
 a0:Int
 a1:Int
 a2:Int
 a3:Int
 deriving DecidableEq,Inhabited
def al9(x:PW):U Tree:=[.sc (.int .i64 x.a0),.sc (.int .i64 x.a1),.sc (.int .i64 x.a2),.sc (.int .i64 x.a3)]
inductive SI where
 |Expr
 |Def
 |Entry
 |Table
 |ju
 |Zone
 |Rule
 |Cap
 |iu
 |View
 |kw
 |Lot
 |ee
 |Window
 |iv
 |kA
 |span
 |strip
 |side
 |lj
 |eW
 |sx
 |pH
 |tB
 |ke
 |Phase
 |fc
 |GW
 |k9
 |site
 |nf
 |graph
 |nh
 deriving DecidableEq
@[reducible] def TT:SI->Type
 |.Expr=>dD
 |.Def=>iQ
 |.Entry=>bZ
 |.Table=>dX
 |.ju=>eZ
 |.Zone=>gm
 |.Rule=>bO
 |.Cap=>j5
 |.iu=>d9
 |.View=>jd
 |.kw=>aj
 |.Lot=>j6
 |.ee=>dI
 |.Window=>Xc
 |.iv=>kE
 |.kA=>dK
 |.span=>aN
 |.strip=>aV
 |.side=>kg
 |.lj=>dJ
 |.eW=>cZ
 |.sx=>dh
 |.pH=>bU
 |.tB=>fu
 |.ke=>aF
 |.Phase=>pu
 |.fc=>bL
 |.GW=>Fo
 |.k9=>nO
 |.site=>aqD
 |.nf=>Lp
 |.graph=>qO
 |.nh=>PW
def asA:(i:SI)->TT i->U Tree
 |.Expr,x=>tJ x
 |.Def,x=>Gc x
 |.Entry,x=>Ak x
 |.Table,x=>xU x
 |.ju,x=>Za x
 |.Zone,x=>PS x
 |.Rule,x=>y9 x
 |.Cap,x=>Nz x
 |.iu,x=>zO x
 |.View,x=>PU x
 |.kw,x=>kD x
 |.Lot,x=>NA x
 |.ee,x=>JQ x
 |.Window,x=>Sn x
 |.iv,x=>Sq x
 |.kA,x=>Ca x
 |.span,x=>ak0 x
 |.strip,x=>aoe x
 |.side,x=>apP x
 |.lj,x=>apQ x
 |.eW,x=>EC x
 |.sx,x=>PV x
 |.pH,x=>aof x
 |.tB,x=>apR x
 |.ke,x=>Lm x
 |.Phase,x=>Zb x
 |.fc,x=>ajh x
 |.GW,x=>ard x
 |.k9,x=>aog x
 |.site,x=>apS x
 |.nf,x=>al8 x
 |.graph,x=>aoh x
 |.nh,x=>al9 x
def se:SE:=⟨SI,inferInstance,TT,asA⟩
def X2:SI->U (CT SI)
 |.Expr=>[.int .i64,.int .i64,.str,.str,.sl (.st SI.Expr)]
 |.Def=>[.str,.int .i64,.int .i64,.str,.str,.sl (.st SI.Expr)]
 |.Entry=>[.str,.int .i64]
 |.Table=>[.str,.sl (.st SI.Entry),.int .i64]
 |.ju=>[.int .i64,.int .i64]
 |.Zone=>[.str,.bool,.sl (.st SI.ju)]
 |.Rule=>[.str,.sl .str,.sl .str,.int .i64,.int .i64,.int .i64,.bool,.int .i64,.int .i64,.int .i64,.str,.str,.sl (.st SI.Expr),.int .i64,.int .i64,.int .i64,.int .i64,.int .i64,.int .i64,.int .i64]
 |.Cap=>[.str,.int .i64,.int .i64,.sl (.st SI.ju)]
 |.iu=>[.int .i64,.int .i64,.int .i64]
 |.View=>[.str,.int .i64,.int .i64,.int .i64,.int .i64,.sl (.st SI.iu)]
 |.kw=>[.int .i64,.int .i64,.int .i64,.int .i64]
 |.Lot=>[.int .i64,.int .i64,.sl (.st SI.kw),.sl (.int .i64)]
 |.ee=>[.int .i64,.sl (.st SI.kw),.int .i64]
 |.Window=>[.int .i64,.int .i64,.int .i64,.int .i64]
 |.iv=>[.int .i64,.int .i64,.int .i64,.int .i64,.int .i64,.int .i64,.int .i64,.int .i64,.int .i64,.bool]
 |.kA=>[.sl (.st SI.Def),.sl (.st SI.Table),.sl (.st SI.Zone),.sl (.st SI.Rule),.sl (.st SI.Cap),.sl (.st SI.View),.sl (.st SI.iu),.int .i64,.sl (.st SI.Lot),.sl (.st SI.ee),.sl (.st SI.Window),.sl (.st SI.iv),.sl (.st SI.Entry)]
 |.span=>[.int .i64,.int .i64]
 |.strip=>[.int .i64,.int .i64,.sl (.st SI.span)]
 |.side=>[.int .i64,.int .i64,.int .i64,.int .i64]
 |.lj=>[.sl (.st SI.Def),.sl (.st SI.Table),.sl (.st SI.Zone),.sl (.st SI.Rule),.sl (.st SI.Cap),.sl (.st SI.View),.sl (.st SI.iu),.int .i64]
 |.eW=>[.int .i64,.int .i64]
 |.sx=>[.int .i64,.int .i64,.sl (.st SI.eW)]
 |.pH=>[.int .i64,.int .i64,.int .i64,.int .i64]
 |.tB=>[.int .i64,.int .i64,.sl (.st SI.kw)]
 |.ke=>[.int .i64,.int .i64,.int .i64,.int .i64,.int .i64,.int .i64,.int .i64,.int .i64,.bool]
 |.Phase=>[.sl (.st SI.ke),.sl (.st SI.Entry)]
 |.fc=>[.int .i64,.sl (.st SI.Phase)]
 |.GW=>[.int .i64,.int .i64,.int .i64,.int .i64,.int .i64,.int .i64]
 |.k9=>[.sl (.st SI.Def),.sl (.st SI.Table),.sl (.st SI.Zone),.sl (.st SI.Rule),.sl (.st SI.Cap),.sl (.st SI.View),.sl (.st SI.iu),.int .i64,.sl (.st SI.Lot),.sl (.st SI.ee),.sl (.st SI.Window),.sl (.st SI.iv),.sl (.st SI.Entry),.int .i64,.int .i64,.sl (.st SI.kw),.sl (.int .i64),.int .i64,.sl (.st SI.Phase),.sl (.st SI.ke),.sl .str]
 |.site=>[.sl (.st SI.Def),.sl (.st SI.Table),.sl (.st SI.Zone),.sl (.st SI.Rule),.sl (.st SI.Cap),.sl (.st SI.View),.sl (.st SI.iu),.int .i64,.sl (.st SI.kw),.sl (.st SI.ke)]
 |.nf=>[.str,.str,.str,.str,.str,.str]
 |.graph=>[.sl (.st SI.Def),.sl (.sl (.int .i64))]
 |.nh=>[.int .i64,.int .i64,.int .i64,.int .i64]
def asB:(i:SI)->TT i->HL se (X2 i)
 |.Expr,x=>(x.op,x.n,x.s,x.key,x.args,())
 |.Def,x=>(x.name,x.lr,x.pC,x.m7,x.li,x.gh,())
 |.Entry,x=>(x.name,x.n,())
 |.Table,x=>(x.name,x.rows,x.sY,())
 |.ju,x=>(x.x,x.y,())
 |.Zone,x=>(x.name,x.overlay,x.corners,())
 |.Rule,x=>(x.name,x.zones,x.except,x.from_,x.k7,x.AM,x.vary,x.kind,x.ga,x.rh,x.rb,x.my,x.cM,x.eM,x.eQ,x.fi,x.fj,x.uses,x.other,x.n,())
 |.Cap,x=>(x.name,x.load,x.limit,x.corners,())
 |.iu,x=>(x.x,x.y,x.z,())
 |.View,x=>(x.name,x.A0,x.AW,x.AS,x.least,x.targets,())
 |.kw,x=>(x.x0,x.y0,x.x1,x.y1,())
 |.Lot,x=>(x.id,x.owner,x.area,x.from_,())
 |.ee,x=>(x.lot,x.area,x.top,())
 |.Window,x=>(x.lot,x.Mb,x.L7,x.L5,())
 |.iv,x=>(x.lot,x.eK,x.eI,x.eJ,x.eE,x.lL,x.lE,x.gb,x.mm,x.mn,())
 |.kA,x=>(x.cz,x.cm,x.bu,x.aw,x.cH,x.cI,x.cV,x.cJ,x.land,x.bz,x.windows,x.built,x.base,())
 |.span,x=>(x.from_,x.to,())
 |.strip,x=>(x.x0,x.x1,x.column,())
 |.side,x=>(x.mf,x.p4,x.mA,x.vn,())
 |.lj,x=>(x.defs,x.tables,x.zones,x.rules,x.caps,x.views,x.tf,x.hours,())
 |.eW,x=>(x.from_,x.to,())
 |.sx,x=>(x.x0,x.x1,x.column,())
 |.pH,x=>(x.side,x.base,x.num,x.den,())
 |.tB,x=>(x.z0,x.z1,x.area,())
 |.ke,x=>(x.b9,x.cy,x.b8,x.cw,x.ev,x.de,x.use,x.units,x.extra,())
 |.Phase,x=>(x.cP,x.gives,())
 |.fc,x=>(x.lot,x.phases,())
 |.GW,x=>(x.oY,x.oS,x.oX,x.oR,x.z0,x.z1,())
 |.k9,x=>(x.gp,x.fh,x.fS,x.fX,x.gx,x.fW,x.ia,x.fY,x.qq,x.k8,x.mw,x.gR,x.qr,x.tj,x.m5,x.lf,x.pg,x.ek,x.jn,x.cP,x.zones,())
 |.site,x=>(x.cz,x.cm,x.bu,x.aw,x.cH,x.cI,x.cV,x.cJ,x.area,x.cP,())
 |.nf,x=>(x.a0,x.a1,x.a2,x.a3,x.a4,x.a5,())
 |.graph,x=>(x.defs,x.uses,())
 |.nh,x=>(x.a0,x.a1,x.a2,x.a3,())
def ar0:(i:SI)->HL se (X2 i)->TT i
 |.Expr,(qa,qb,qc,qd,qe,_)=>⟨qa,qb,qc,qd,qe⟩
 |.Def,(qa,qb,qc,qd,qe,qf,_)=>⟨qa,qb,qc,qd,qe,qf⟩
 |.Entry,h=>⟨h.1,h.2.1⟩
 |.Table,h=>⟨h.1,h.2.1,h.2.2.1⟩
 |.ju,h=>⟨h.1,h.2.1⟩
 |.Zone,h=>⟨h.1,h.2.1,h.2.2.1⟩
 |.Rule,(qa,qb,qc,qd,qe,qf,qg,qh,qi,qj,qk,ql,qm,qn,qo,qp,qq,qr,qs,qt,_)=>⟨qa,qb,qc,qd,qe,qf,qg,qh,qi,qj,qk,ql,qm,qn,qo,qp,qq,qr,qs,qt⟩
 |.Cap,(qa,qb,qc,qd,_)=>⟨qa,qb,qc,qd⟩
 |.iu,h=>⟨h.1,h.2.1,h.2.2.1⟩
 |.View,(qa,qb,qc,qd,qe,qf,_)=>⟨qa,qb,qc,qd,qe,qf⟩
 |.kw,(qa,qb,qc,qd,_)=>⟨qa,qb,qc,qd⟩
 |.Lot,(qa,qb,qc,qd,_)=>⟨qa,qb,qc,qd⟩
 |.ee,h=>⟨h.1,h.2.1,h.2.2.1⟩
 |.Window,(qa,qb,qc,qd,_)=>⟨qa,qb,qc,qd⟩
 |.iv,(qa,qb,qc,qd,qe,qf,qg,qh,qi,qj,_)=>⟨qa,qb,qc,qd,qe,qf,qg,qh,qi,qj⟩
 |.kA,(qa,qb,qc,qd,qe,qf,qg,qh,qi,qj,qk,ql,qm,_)=>⟨qa,qb,qc,qd,qe,qf,qg,qh,qi,qj,qk,ql,qm⟩
 |.span,h=>⟨h.1,h.2.1⟩
 |.strip,h=>⟨h.1,h.2.1,h.2.2.1⟩
 |.side,(qa,qb,qc,qd,_)=>⟨qa,qb,qc,qd⟩
 |.lj,(qa,qb,qc,qd,qe,qf,qg,qh,_)=>⟨qa,qb,qc,qd,qe,qf,qg,qh⟩
 |.eW,h=>⟨h.1,h.2.1⟩
 |.sx,h=>⟨h.1,h.2.1,h.2.2.1⟩
 |.pH,(qa,qb,qc,qd,_)=>⟨qa,qb,qc,qd⟩
 |.tB,h=>⟨h.1,h.2.1,h.2.2.1⟩
 |.ke,(qa,qb,qc,qd,qe,qf,qg,qh,qi,_)=>⟨qa,qb,qc,qd,qe,qf,qg,qh,qi⟩
 |.Phase,h=>⟨h.1,h.2.1⟩
 |.fc,h=>⟨h.1,h.2.1⟩
 |.GW,(qa,qb,qc,qd,qe,qf,_)=>⟨qa,qb,qc,qd,qe,qf⟩
 |.k9,(qa,qb,qc,qd,qe,qf,qg,qh,qi,qj,qk,ql,qm,qn,qo,qp,qq,qr,qs,qt,qu,_)=>⟨qa,qb,qc,qd,qe,qf,qg,qh,qi,qj,qk,ql,qm,qn,qo,qp,qq,qr,qs,qt,qu⟩
 |.site,(qa,qb,qc,qd,qe,qf,qg,qh,qi,qj,_)=>⟨qa,qb,qc,qd,qe,qf,qg,qh,qi,qj⟩
 |.nf,(qa,qb,qc,qd,qe,qf,_)=>⟨qa,qb,qc,qd,qe,qf⟩
 |.graph,h=>⟨h.1,h.2.1⟩
 |.nh,(qa,qb,qc,qd,_)=>⟨qa,qb,qc,qd⟩
def xd:aj:=⟨0,0,1048576,1048576⟩
def gvS:Nat->J ((c:CT SI)×CT.T se c)
 | 0=>some ⟨.st SI.kw,xd⟩
 |_=>none
def xx:SX:={ toSE:=se,d6:=X2,get:=asB,make:=ar0,oA:=by intro i x;cases i<;>first|rfl|exact Y9 _,ii:=by intro i h;cases i<;>first|rfl|exact Y9 _,flat:=by intro i;cases i<;>rfl,gv:=gvS,AK:=by intro g;match g with| 0=>rfl|_+1=>rfl }
abbrev du:Value:=.slice none 0 0
abbrev d8:Value:=.int .i64 0
abbrev H0:Value:=.bool false
abbrev mj:Value:=.string ⟨#[]⟩
def tab:U (TypeId×pD):=[
 (3,⟨1,8,false,[d8],.int .i64,[]⟩),
 (4,⟨1,1,false,[H0],.bool,[]⟩),
 (9,⟨1,16,false,[mj],.str,[]⟩),
 (22,⟨1,24,false,[du],.slice 241,[]⟩),
 (23,⟨1,24,false,[du],.slice 281,[]⟩),
 (24,⟨1,24,false,[du],.slice 179,[]⟩),
 (25,⟨1,24,false,[du],.slice 84,[]⟩),
 (26,⟨1,24,false,[du],.slice 116,[]⟩),
 (27,⟨1,24,false,[du],.slice 376,[]⟩),
 (28,⟨1,24,false,[du],.slice 374,[]⟩),
 (30,⟨8,176,true,[du,du,du,du,du,du,du,d8],.struct [(0,22),(1,23),(2,24),(3,25),(4,26),(5,27),(6,28),(7,3)],[]⟩),
 (31,⟨1,24,false,[du],.slice 46,[]⟩),
 (32,⟨1,24,false,[du],.slice 86,[]⟩),
 (33,⟨1,24,false,[du],.slice 378,[]⟩),
 (34,⟨1,24,false,[du],.slice 198,[]⟩),
 (35,⟨1,24,false,[du],.slice 112,[]⟩),
 (37,⟨13,296,true,[du,du,du,du,du,du,du,d8,du,du,du,du,du],.struct [(0,30),(8,31),(9,32),(10,33),(11,34),(12,35)],[]⟩),
 (39,⟨4,32,true,[d8,d8,d8,d8],.struct [(0,3),(1,3),(2,3),(3,3)],[0,0,0,0]⟩),
 (43,⟨1,24,false,[du],.slice 39,[]⟩),
 (44,⟨1,24,false,[du],.slice 3,[]⟩),
 (46,⟨4,64,true,[d8,d8,du,du],.struct [(0,3),(1,3),(2,43),(3,44)],[]⟩),
 (50,⟨6,48,true,[d8,d8,d8,d8,d8,d8],.struct [(0,39),(4,3),(5,3)],[]⟩),
 (52,⟨9,72,true,[d8,d8,d8,d8,d8,d8,d8,d8,H0],.struct [(0,50),(6,3),(7,3),(8,4)],[]⟩),
 (53,⟨1,24,false,[du],.slice 52,[]⟩),
 (55,⟨2,48,true,[du,du],.struct [(0,53),(1,35)],[]⟩),
 (56,⟨1,24,false,[du],.slice 55,[]⟩),
 (58,⟨2,32,true,[d8,du],.struct [(0,3),(1,56)],[]⟩),
 (59,⟨1,24,false,[du],.slice 43,[]⟩),
 (63,⟨1,24,false,[du],.slice 9,[]⟩),
 (72,⟨1,24,false,[du],.slice 120,[]⟩),
 (76,⟨1,24,false,[du],.slice 82,[]⟩),
 (78,⟨1,24,false,[du],.slice 80,[]⟩),
 (80,⟨5,72,true,[d8,d8,mj,mj,du],.struct [(0,3),(1,3),(2,9),(3,9),(4,78)],[]⟩),
 (82,⟨4,32,true,[d8,d8,d8,d8],.struct [(0,3),(1,3),(2,3),(3,3)],[0,0,0,0]⟩),
 (84,⟨20,232,true,[mj,du,du,d8,d8,d8,H0,d8,d8,d8,mj,mj,du,d8,d8,d8,d8,d8,d8,d8],.struct [(0,9),(1,63),(2,63),(3,3),(4,3),(5,3),(6,4),(7,3),(8,80),(13,82),(17,3),(18,3),(19,3)],[]⟩),
 (86,⟨3,40,true,[d8,du,d8],.struct [(0,3),(1,43),(2,3)],[]⟩),
 (96,⟨21,440,true,[du,du,du,du,du,du,du,d8,du,du,du,du,du,d8,d8,du,du,d8,du,du,du],.struct [(0,37),(13,46),(17,58),(19,53),(20,63)],[]⟩),
 (112,⟨2,24,true,[mj,d8],.struct [(0,9),(1,3)],[2,0]⟩),
 (114,⟨1,24,false,[du],.slice 232,[]⟩),
 (116,⟨4,56,true,[mj,d8,d8,du],.struct [(0,9),(1,3),(2,3),(3,114)],[]⟩),
 (120,⟨3,40,true,[d8,d8,du],.struct [(0,3),(1,3),(2,43)],[]⟩),
 (128,⟨1,24,false,[du],.slice 132,[]⟩),
 (130,⟨1,24,false,[du],.slice 137,[]⟩),
 (132,⟨3,40,true,[d8,d8,du],.struct [(0,3),(1,3),(2,130)],[]⟩),
 (137,⟨2,16,true,[d8,d8],.struct [(0,3),(1,3)],[0,0]⟩),
 (153,⟨1,8,false,[.map none],.map 9 4,[]⟩),
 (163,⟨1,24,false,[du],.slice 207,[]⟩),
 (168,⟨1,8,false,[.int .u64 0],.int .u64,[]⟩),
 (179,⟨3,48,true,[mj,H0,du],.struct [(0,9),(1,4),(2,114)],[]⟩),
 (182,⟨1,8,false,[.map none],.map 9 3,[]⟩),
 (184,⟨10,208,true,[du,du,du,du,du,du,du,d8,.map none,du],.struct [(0,30),(8,182),(9,63)],[]⟩),
 (188,⟨1,8,false,[.pointer none],.other,[]⟩),
 (190,⟨10,224,true,[du,du,du,du,du,du,du,d8,du,du],.struct [(0,30),(8,43),(9,53)],[]⟩),
 (191,⟨1,8,false,[.nilFunc],.other,[]⟩),
 (193,⟨2,24,true,[mj,.nilFunc],.struct [(0,9),(1,191)],[]⟩),
 (194,⟨18,216,true,[mj,.nilFunc,mj,.nilFunc,mj,.nilFunc,mj,.nilFunc,mj,.nilFunc,mj,.nilFunc,mj,.nilFunc,mj,.nilFunc,mj,.nilFunc],.arr 9 193,[]⟩),
 (198,⟨10,80,true,[d8,d8,d8,d8,d8,d8,d8,d8,d8,H0],.struct [(0,3),(1,52)],[]⟩),
 (205,⟨1,24,false,[du],.slice 212,[]⟩),
 (207,⟨3,40,true,[d8,d8,du],.struct [(0,3),(1,3),(2,205)],[]⟩),
 (212,⟨2,16,true,[d8,d8],.struct [(0,3),(1,3)],[0,0]⟩),
 (232,⟨2,16,true,[d8,d8],.struct [(0,3),(1,3)],[0,0]⟩),
 (241,⟨6,88,true,[mj,d8,d8,mj,mj,du],.struct [(0,9),(1,80)],[]⟩),
 (281,⟨3,48,true,[mj,du,d8],.struct [(0,9),(1,35),(2,3)],[]⟩),
 (287,⟨4,32,true,[d8,d8,d8,d8],.arr 4 3,[]⟩),
 (289,⟨1,24,false,[du],.slice 205,[]⟩),
 (302,⟨1,24,false,[du],.slice 305,[]⟩),
 (305,⟨4,32,true,[d8,d8,d8,d8],.struct [(0,232),(2,232)],[]⟩),
 (306,⟨1,24,false,[du],.slice 44,[]⟩),
 (308,⟨2,48,true,[du,du],.struct [(0,22),(1,306)],[]⟩),
 (312,⟨1,24,false,[du],.slice 4,[]⟩),
 (314,⟨6,96,true,[mj,mj,mj,mj,mj,mj],.arr 6 9,[]⟩),
 (374,⟨3,24,true,[d8,d8,d8],.struct [(0,3),(1,3),(2,3)],[0,0,0]⟩),
 (376,⟨6,72,true,[mj,d8,d8,d8,d8,du],.struct [(0,9),(1,374),(4,3),(5,28)],[]⟩),
 (378,⟨4,32,true,[d8,d8,d8,d8],.struct [(0,3),(1,374)],[]⟩)]
def ar1:U (TypeId×CT SI):=[(3,.int .i64),(4,.bool),(9,.str),(39,.st SI.kw),(43,.sl (.st SI.kw)),(46,.st SI.Lot),(52,.st SI.ke),(55,.st SI.Phase),(80,.st SI.Expr),(82,.st SI.pH),(84,.st SI.Rule),(86,.st SI.ee),(112,.st SI.Entry),(120,.st SI.tB),(137,.st SI.eW),(205,.sl (.st SI.span)),(207,.st SI.strip),(212,.st SI.span),(305,.st SI.side)]
def aqE:TypeId->J (CT xx.ι):=lk ar1
theorem qP:fQ Tryz.prog (pV tab):=anj (by kernel_rfl)
theorem mixed:Tryz.prog.follows .mixedOrders=true:=Checked.mixed Tryz.checked
theorem cq{f:FuncId}{fn:Func}{l:U (FuncId×ct xx)}(hΓ:te Tryz.prog (y6 l))(hfn:Tryz.prog.funcs[f]? =some fn){s:ct xx}(h:Hn SI)(n:Nat)
 (hq : (fn.body.isSome && !(fn.name == "runtime.NumGoroutine") && decide (s.args.length <= fn.ntmps /\ xN s.args <= 1000 /\ (s.res.filter RT.out).length = xN s.args)) = true := by kernel_rfl) (hg : s.gen = none := by rfl)
 (hr:∀a,run (y6 l) (pV tab) aqE fn.ntmps n (fn.body.getD .skip) (uM xx s.res) h (CH s.args a) (arS (pV tab) fn.results.toList s.res)=s.fn a:=by intro _;kernel_rfl):GT Tryz.prog f s:=by
 rw[aY,aY]at hq;obtain⟨⟨q1,q2⟩,q3⟩:=hq;have hb:fn.body=some (fn.body.getD .skip):=by
  cases hc:fn.body with
  |none=>rw[hc]at q1;cases q1
  |some c=>rfl
 have hn : (fn.name == "runtime.NumGoroutine") = false := by simpa using q2
 exact A2 (xQ hfn hb hn) (λ a _ e=>arT qP mixed hΓ hfn hb hn _ _ (of_decide_eq_true q3) h n ((hr a).trans e)) hg
abbrev tzG(g:dg xx):ct xx:=⟨[],[.d .bool],λ_=>none,some g⟩
theorem oE{f:FuncId}{fn:Func}{l:U (FuncId×ct xx)}(hΓ:te Tryz.prog (y6 l))(hfn:Tryz.prog.funcs[f]? =some fn){g:dg xx}(h:Hn SI)(n:Nat)
 (hq : (fn.body.isSome && !(fn.name == "runtime.NumGoroutine") && decide (g.pS.length <= fn.ntmps) && g.CI) = true:=by kernel_rfl)
 (hr:∀v,run (y6 l) (pV tab) aqE fn.ntmps n (fn.body.getD .skip) (VT (X:=xx) (BV g).vars) h (Hs g v) (aqA (pV tab) fn.results.toList g)=g.fn v:=by intro _;kernel_rfl):GT Tryz.prog f ⟨[],[.d .bool],λ_=>none,some g⟩:=by
 rw[aY,aY,aY]at hq;obtain⟨⟨⟨q1,q2⟩,q3⟩,q4⟩:=hq;have hb:fn.body=some (fn.body.getD .skip):=by
  cases hc:fn.body with
  |none=>rw[hc]at q1;cases q1
  |some c=>rfl
 have hn : (fn.name == "runtime.NumGoroutine") = false := by simpa using q2
 exact aq3 (xQ hfn hb hn) (aq4 qP mixed hΓ hfn hb hn g (of_decide_eq_true q3) q4 h n (λ v _ e=>(hr v).trans e))
theorem gcn:te Tryz.prog (y6 ([]:U (FuncId×ct xx))):=aA
abbrev af:CT SI:=.int .i64
abbrev bE:CT SI:=.st SI.Def
abbrev bn:CT SI:=.st SI.Table
abbrev bG:CT SI:=.st SI.Zone
abbrev aU:CT SI:=.st SI.Rule
abbrev bM:CT SI:=.st SI.Cap
abbrev bf:CT SI:=.st SI.iu
abbrev bI:CT SI:=.st SI.View
abbrev ax:CT SI:=.st SI.kw
abbrev eY:CT SI:=.st SI.pH
abbrev iB:CT SI:=.st SI.tB
abbrev aH:CT SI:=.st SI.ke
abbrev aJ(f:Nat)(s:ct xx):Prop:=GT Tryz.prog f s
abbrev iL:=(List iQ)×(List dX)×(List gm)×(List bO)×(List j5)×(List jd)×(List d9)×Int×(List aj)×(List aF)
end Go.Proofs
