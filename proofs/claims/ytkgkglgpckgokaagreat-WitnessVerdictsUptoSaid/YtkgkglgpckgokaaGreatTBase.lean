import Derived.Test.YtkgkglgpckgokaaGreatH1
import Derived.Test.YtkgkglgpckgokaaGreatChecked
namespace Go.Proofs
open Go.Gb Go.RowKit
structure cu where
 op:Int
 n:Int
 s:ByteArray
 key:ByteArray
 args:(List cu)
mutual
def qZ:cu->List Tree
 |⟨f0,f1,f2,f3,f4⟩=>[.sc (.int .i64 f0),.sc (.int .i64 f1),.sc (.string f2),.sc (.string f3),.sl (tK f4)]
def tK:List cu->List (List Tree)
 |[]=>[]
 |x::xs=>qZ x::tK xs
end
theorem tL:∀l:U cu,tK l=l.map qZ
 |[]=>rfl
 |x::xs=>by rw[tK,tL xs];rfl
theorem WU(x:cu):qZ x=[.sc (.int .i64 x.op),.sc (.int .i64 x.n),.sc (.string x.s),.sc (.string x.key),.sl (x.args.map qZ)]:=by cases x;simp only[qZ,tL]
structure fw where
 name:ByteArray
 ir:Int
 ly:Int
 kw:ByteArray
 ii:ByteArray
 ep:(List cu)
def Ei(x:fw):U Tree:=[.sc (.string x.name),.sc (.int .i64 x.ir),.sc (.int .i64 x.ly),.sc (.string x.kw),.sc (.string x.ii),.sl (x.ep.map qZ)]
structure bR where
 name:ByteArray
 n:Int
 deriving DecidableEq,Inhabited
def Ib(x:bR):U Tree:=[.sc (.string x.name),.sc (.int .i64 x.n)]
structure cB where
 name:ByteArray
 rows:(List bR)
 sn:Int
 deriving DecidableEq,Inhabited
def Ic(x:cB):U Tree:=[.sc (.string x.name),.sl (x.rows.map Ib),.sc (.int .i64 x.sn)]
structure dS where
 x:Int
 y:Int
 deriving DecidableEq,Inhabited
def WV(x:dS):U Tree:=[.sc (.int .i64 x.x),.sc (.int .i64 x.y)]
structure dN where
 name:ByteArray
 overlay:Bool
 corners:(List dS)
 deriving DecidableEq,Inhabited
def Nv(x:dN):U Tree:=[.sc (.string x.name),.sc (.bool x.overlay),.sl (x.corners.map WV)]
structure bV where
 name:ByteArray
 zones:(List ByteArray)
 except:(List ByteArray)
 from_:Int
 cM:Int
 y4:Int
 vary:Bool
 kind:Int
 kB:Int
 mw:Int
 mn:ByteArray
 jn:ByteArray
 ga:(List cu)
 hZ:Int
 ia:Int
 js:Int
 jt:Int
 uses:Int
 other:Int
 n:Int
def q8(x:bV):U Tree:=[.sc (.string x.name),.sl (x.zones.map (λ y=>[.sc (.string y)])),.sl (x.except.map (λ y=>[.sc (.string y)])),.sc (.int .i64 x.from_),.sc (.int .i64 x.cM),.sc (.int .i64 x.y4),.sc (.bool x.vary),.sc (.int .i64 x.kind),.sc (.int .i64 x.kB),.sc (.int .i64 x.mw),.sc (.string x.mn),.sc (.string x.jn),.sl (x.ga.map qZ),.sc (.int .i64 x.hZ),.sc (.int .i64 x.ia),.sc (.int .i64 x.js),.sc (.int .i64 x.jt),.sc (.int .i64 x.uses),.sc (.int .i64 x.other),.sc (.int .i64 x.n)]
structure fZ where
 name:ByteArray
 load:Int
 limit:Int
 corners:(List dS)
 deriving DecidableEq,Inhabited
def WW(x:fZ):U Tree:=[.sc (.string x.name),.sc (.int .i64 x.load),.sc (.int .i64 x.limit),.sl (x.corners.map WV)]
structure bW where
 x:Int
 y:Int
 z:Int
 deriving DecidableEq,Inhabited
def yA(x:bW):U Tree:=[.sc (.int .i64 x.x),.sc (.int .i64 x.y),.sc (.int .i64 x.z)]
structure eU where
 name:ByteArray
 zj:Int
 zg:Int
 zd:Int
 least:Int
 targets:(List bW)
 deriving DecidableEq,Inhabited
def Nw(x:eU):U Tree:=[.sc (.string x.name),.sc (.int .i64 x.zj),.sc (.int .i64 x.zg),.sc (.int .i64 x.zd),.sc (.int .i64 x.least),.sl (x.targets.map yA)]
structure bq where
 defs:(List fw)
 tables:(List cB)
 zones:(List dN)
 rules:(List bV)
 caps:(List fZ)
 views:(List eU)
 nr:(List bW)
 hours:Int
def UC(x:bq):U Tree:=[.sl (x.defs.map Ei),.sl (x.tables.map Ic),.sl (x.zones.map Nv),.sl (x.rules.map q8),.sl (x.caps.map WW),.sl (x.views.map Nw),.sl (x.nr.map yA),.sc (.int .i64 x.hours)]
structure ax where
 x0:Int
 y0:Int
 x1:Int
 y1:Int
 deriving DecidableEq,Inhabited
def JC(x:ax):U Tree:=[.sc (.int .i64 x.x0),.sc (.int .i64 x.y0),.sc (.int .i64 x.x1),.sc (.int .i64 x.y1)]
structure aO where
 from_:Int
 to:Int
 deriving DecidableEq,Inhabited
def aiv(x:aO):U Tree:=[.sc (.int .i64 x.from_),.sc (.int .i64 x.to)]
structure bX where
 x0:Int
 x1:Int
 column:(List aO)
 deriving DecidableEq,Inhabited
def alK(x:bX):U Tree:=[.sc (.int .i64 x.x0),.sc (.int .i64 x.x1),.sl (x.column.map aiv)]
structure bU where
 id:Int
 owner:Int
 area:(List ax)
 from_:(List Int)
 deriving DecidableEq,Inhabited
def Ld(x:bU):U Tree:=[.sc (.int .i64 x.id),.sc (.int .i64 x.owner),.sl (x.area.map JC),.sl (x.from_.map (λ y=>[.sc (.int .i64 y)]))]
structure aS where
 lot:Int
 use:Int
 floors:Int
 fW:Int
 deriving DecidableEq,Inhabited
def alL(x:aS):U Tree:=[.sc (.int .i64 x.lot),.sc (.int .i64 x.use),.sc (.int .i64 x.floors),.sc (.int .i64 x.fW)]
structure aH where
 bx:Int
 ci:Int
 bu:Int
 cg:Int
 ev:Int
 ec:Int
 use:Int
 units:Int
 extra:Bool
 deriving DecidableEq,Inhabited
def JD(x:aH):U Tree:=[.sc (.int .i64 x.bx),.sc (.int .i64 x.ci),.sc (.int .i64 x.bu),.sc (.int .i64 x.cg),.sc (.int .i64 x.ev),.sc (.int .i64 x.ec),.sc (.int .i64 x.use),.sc (.int .i64 x.units),.sc (.bool x.extra)]
structure ql where
 cy:(List aH)
 gives:(List bR)
 deriving DecidableEq,Inhabited
def Ny(x:ql):U Tree:=[.sl (x.cy.map JD),.sl (x.gives.map Ib)]
structure bg where
 lot:Int
 phases:(List ql)
 deriving DecidableEq,Inhabited
def agJ(x:bg):U Tree:=[.sc (.int .i64 x.lot),.sl (x.phases.map Ny)]
structure jl where
 lot:Int
 area:(List ax)
 top:Int
 deriving DecidableEq,Inhabited
def Ie(x:jl):U Tree:=[.sc (.int .i64 x.lot),.sl (x.area.map JC),.sc (.int .i64 x.top)]
structure Ej where
 lot:Int
 IM:Int
 IH:Int
 IF:Int
 deriving DecidableEq,Inhabited
def P7(x:Ej):U Tree:=[.sc (.int .i64 x.lot),.sc (.int .i64 x.IM),.sc (.int .i64 x.IH),.sc (.int .i64 x.IF)]
structure iH where
 lot:Int
 eh:Int
 ee:Int
 ef:Int
 ed:Int
 lf:Int
 ld:Int
 ff:Int
 lO:Int
 lP:Bool
 deriving DecidableEq,Inhabited
def P8(x:iH):U Tree:=[.sc (.int .i64 x.lot),.sc (.int .i64 x.eh),.sc (.int .i64 x.ee),.sc (.int .i64 x.ef),.sc (.int .i64 x.ed),.sc (.int .i64 x.lf),.sc (.int .i64 x.ld),.sc (.int .i64 x.ff),.sc (.int .i64 x.lO),.sc (.bool x.lP)]
structure bT where
 cj:(List fw)
 ca:(List cB)
 b8:(List dN)
 bj:(List bV)
 cw:(List fZ)
 cm:(List eU)
 cD:(List bW)
 co:Int
 land:(List bU)
 bz:(List jl)
 windows:(List Ej)
 built:(List iH)
 base:(List bR)
def JE(x:bT):U Tree:=[.sl (x.cj.map Ei),.sl (x.ca.map Ic),.sl (x.b8.map Nv),.sl (x.bj.map q8),.sl (x.cw.map WW),.sl (x.cm.map Nw),.sl (x.cD.map yA),.sc (.int .i64 x.co),.sl (x.land.map Ld),.sl (x.bz.map Ie),.sl (x.windows.map P7),.sl (x.built.map P8),.sl (x.base.map Ib)]
structure sI where
 mA:Int
 mz:Int
 j0:Int
 kf:Int
 cz:Int
 cP:(List ql)
 deriving DecidableEq,Inhabited
def anx(x:sI):U Tree:=[.sc (.int .i64 x.mA),.sc (.int .i64 x.mz),.sc (.int .i64 x.j0),.sc (.int .i64 x.kf),.sc (.int .i64 x.cz),.sl (x.cP.map Ny)]
structure DH where
 oR:Int
 oB:Int
 oE:Int
 oA:Int
 z0:Int
 z1:Int
 deriving DecidableEq,Inhabited
def aoX(x:DH):U Tree:=[.sc (.int .i64 x.oR),.sc (.int .i64 x.oB),.sc (.int .i64 x.oE),.sc (.int .i64 x.oA),.sc (.int .i64 x.z0),.sc (.int .i64 x.z1)]
structure jC where
 lz:Int
 pD:Int
 mi:Int
 t8:Int
 deriving DecidableEq,Inhabited
def anz(x:jC):U Tree:=[.sc (.int .i64 x.lz),.sc (.int .i64 x.pD),.sc (.int .i64 x.mi),.sc (.int .i64 x.t8)]
structure l6 where
 fm:(List fw)
 eI:(List cB)
 eS:(List dN)
 eW:(List bV)
 fp:(List fZ)
 eV:(List eU)
 gh:(List bW)
 fc:Int
 pT:(List bU)
 ka:(List jl)
 lR:(List Ej)
 fY:(List iH)
 pZ:(List bR)
 s8:Int
 mL:Int
 km:(List ax)
 pc:(List Int)
 cz:Int
 cP:(List ql)
 cy:(List aH)
 zones:(List ByteArray)
def alM(x:l6):U Tree:=[.sl (x.fm.map Ei),.sl (x.eI.map Ic),.sl (x.eS.map Nv),.sl (x.eW.map q8),.sl (x.fp.map WW),.sl (x.eV.map Nw),.sl (x.gh.map yA),.sc (.int .i64 x.fc),.sl (x.pT.map Ld),.sl (x.ka.map Ie),.sl (x.lR.map P7),.sl (x.fY.map P8),.sl (x.pZ.map Ib),.sc (.int .i64 x.s8),.sc (.int .i64 x.mL),.sl (x.km.map JC),.sl (x.pc.map (λ y=>[.sc (.int .i64 y)])),.sc (.int .i64 x.cz),.sl (x.cP.map Ny),.sl (x.cy.map JD),.sl (x.zones.map (λ y=>[.sc (.string y)]))]
structure alN where
 cj:(List fw)
 ca:(List cB)
 b8:(List dN)
 bj:(List bV)
 cw:(List fZ)
 cm:(List eU)
 cD:(List bW)
 co:Int
 area:(List ax)
 cy:(List aH)
def alO(x:alN):U Tree:=[.sl (x.cj.map Ei),.sl (x.ca.map Ic),.sl (x.b8.map Nv),.sl (x.bj.map q8),.sl (x.cw.map WW),.sl (x.cm.map Nw),.sl (x.cD.map yA),.sc (.int .i64 x.co),.sl (x.area.map JC),.sl (x.cy.map JD)]
structure JF where
 a0:ByteArray
 a1:ByteArray
 a2:ByteArray
 a3:ByteArray
 a4:ByteArray
 a5:ByteArray
 deriving DecidableEq,Inhabited
def ajL(x:JF):U Tree:=[.sc (.string x.a0),.sc (.string x.a1),.sc (.string x.a2),.sc (.string x.a3),.sc (.string x.a4),.sc (.string x.a5)]
structure oU where
 defs:(List fw)
 uses:(List (List Int))
def alP(x:oU):U Tree:=[.sl (x.defs.map Ei),.sl (x.uses.map (λ y=>[.sl (y.map (λ y=>[.sc (.int .i64 y)]))]))]
structure fT where
 z0:Int
 z1:Int
 area:(List ax)
 deriving DecidableEq,Inhabited
def anA(x:fT):U Tree:=[.sc (.int .i64 x.z0),.sc (.int .i64 x.z1),.sl (x.area.map JC)]
structure dX where
 side:Int
 base:Int
 num:Int
 den:Int
 deriving DecidableEq,Inhabited
def alQ(x:dX):U Tree:=[.sc (.int .i64 x.side),.sc (.int .i64 x.base),.sc (.int .i64 x.num),.sc (.int .i64 x.den)]
structure Nz where
 a0:Int
 a1:Int
 a2:Int
 a3:Int
 deriving DecidableEq,Inhabited
def ajM(x:Nz):U Tree:=[.sc (.int .i64 x.a0),.sc (.int .i64 x.a1),.sc (.int .i64 x.a2),.sc (.int .i64 x.a3)]
structure lC where
 a0:Int
 a1:Int
 deriving DecidableEq,Inhabited
def ajN(x:lC):U Tree:=[.sc (.int .i64 x.a0),.sc (.int .i64 x.a1)]
inductive SI where
 |Expr
 |Def
 |Entry
 |Table
 |iv
 |Zone
 |Rule
 |Cap
 |gC
 |View
 |k8
 |mj
 |span
 |strip
 |Lot
 |j8
 |i8
 |Phase
 |d5
 |eC
 |Window
 |ft
 |ov
 |site
 |Ek
 |side
 |ke
 |rL
 |m4
 |graph
 |k7
 |gj
 |m5
 |eo
 deriving DecidableEq
@[reducible] def TT:SI->Type
 | .Expr=>cu
 | .Def=>fw
 | .Entry=>bR
 | .Table=>cB
 | .iv=>dS
 | .Zone=>dN
 | .Rule=>bV
 | .Cap=>fZ
 | .gC=>bW
 | .View=>eU
 | .k8=>bq
 | .mj=>ax
 | .span=>aO
 | .strip=>bX
 | .Lot=>bU
 | .j8=>aS
 | .i8=>aH
 | .Phase=>ql
 | .d5=>bg
 | .eC=>jl
 | .Window=>Ej
 | .ft=>iH
 | .ov=>bT
 | .site=>sI
 | .Ek=>DH
 | .side=>jC
 | .ke=>l6
 | .rL=>alN
 | .m4=>JF
 | .graph=>oU
 | .k7=>fT
 | .gj=>dX
 | .m5=>Nz
 | .eo=>lC
def apO:(i:SI)->TT i->U Tree
 | .Expr,x=>qZ x
 | .Def,x=>Ei x
 | .Entry,x=>Ib x
 | .Table,x=>Ic x
 | .iv,x=>WV x
 | .Zone,x=>Nv x
 | .Rule,x=>q8 x
 | .Cap,x=>WW x
 | .gC,x=>yA x
 | .View,x=>Nw x
 | .k8,x=>UC x
 | .mj,x=>JC x
 | .span,x=>aiv x
 | .strip,x=>alK x
 | .Lot,x=>Ld x
 | .j8,x=>alL x
 | .i8,x=>JD x
 | .Phase,x=>Ny x
 | .d5,x=>agJ x
 | .eC,x=>Ie x
 | .Window,x=>P7 x
 | .ft,x=>P8 x
 | .ov,x=>JE x
 | .site,x=>anx x
 | .Ek,x=>aoX x
 | .side,x=>anz x
 | .ke,x=>alM x
 | .rL,x=>alO x
 | .m4,x=>ajL x
 | .graph,x=>alP x
 | .k7,x=>anA x
 | .gj,x=>alQ x
 | .m5,x=>ajM x
 | .eo,x=>ajN x
def se:SE:=⟨SI,inferInstance,TT,apO⟩
def Vc:SI->U (CT SI)
 | .Expr=>[(.int .i64),(.int .i64),.str,.str,(.sl (.st SI.Expr))]
 | .Def=>[.str,(.int .i64),(.int .i64),.str,.str,(.sl (.st SI.Expr))]
 | .Entry=>[.str,(.int .i64)]
 | .Table=>[.str,(.sl (.st SI.Entry)),(.int .i64)]
 | .iv=>[(.int .i64),(.int .i64)]
 | .Zone=>[.str,.bool,(.sl (.st SI.iv))]
 | .Rule=>[.str,(.sl .str),(.sl .str),(.int .i64),(.int .i64),(.int .i64),.bool,(.int .i64),(.int .i64),(.int .i64),.str,.str,(.sl (.st SI.Expr)),(.int .i64),(.int .i64),(.int .i64),(.int .i64),(.int .i64),(.int .i64),(.int .i64)]
 | .Cap=>[.str,(.int .i64),(.int .i64),(.sl (.st SI.iv))]
 | .gC=>[(.int .i64),(.int .i64),(.int .i64)]
 | .View=>[.str,(.int .i64),(.int .i64),(.int .i64),(.int .i64),(.sl (.st SI.gC))]
 | .k8=>[(.sl (.st SI.Def)),(.sl (.st SI.Table)),(.sl (.st SI.Zone)),(.sl (.st SI.Rule)),(.sl (.st SI.Cap)),(.sl (.st SI.View)),(.sl (.st SI.gC)),(.int .i64)]
 | .mj=>[(.int .i64),(.int .i64),(.int .i64),(.int .i64)]
 | .span=>[(.int .i64),(.int .i64)]
 | .strip=>[(.int .i64),(.int .i64),(.sl (.st SI.span))]
 | .Lot=>[(.int .i64),(.int .i64),(.sl (.st SI.mj)),(.sl (.int .i64))]
 | .j8=>[(.int .i64),(.int .i64),(.int .i64),(.int .i64)]
 | .i8=>[(.int .i64),(.int .i64),(.int .i64),(.int .i64),(.int .i64),(.int .i64),(.int .i64),(.int .i64),.bool]
 | .Phase=>[(.sl (.st SI.i8)),(.sl (.st SI.Entry))]
 | .d5=>[(.int .i64),(.sl (.st SI.Phase))]
 | .eC=>[(.int .i64),(.sl (.st SI.mj)),(.int .i64)]
 | .Window=>[(.int .i64),(.int .i64),(.int .i64),(.int .i64)]
 | .ft=>[(.int .i64),(.int .i64),(.int .i64),(.int .i64),(.int .i64),(.int .i64),(.int .i64),(.int .i64),(.int .i64),.bool]
 | .ov=>[(.sl (.st SI.Def)),(.sl (.st SI.Table)),(.sl (.st SI.Zone)),(.sl (.st SI.Rule)),(.sl (.st SI.Cap)),(.sl (.st SI.View)),(.sl (.st SI.gC)),(.int .i64),(.sl (.st SI.Lot)),(.sl (.st SI.eC)),(.sl (.st SI.Window)),(.sl (.st SI.ft)),(.sl (.st SI.Entry))]
 | .site=>[(.int .i64),(.int .i64),(.int .i64),(.int .i64),(.int .i64),(.sl (.st SI.Phase))]
 | .Ek=>[(.int .i64),(.int .i64),(.int .i64),(.int .i64),(.int .i64),(.int .i64)]
 | .side=>[(.int .i64),(.int .i64),(.int .i64),(.int .i64)]
 | .ke=>[(.sl (.st SI.Def)),(.sl (.st SI.Table)),(.sl (.st SI.Zone)),(.sl (.st SI.Rule)),(.sl (.st SI.Cap)),(.sl (.st SI.View)),(.sl (.st SI.gC)),(.int .i64),(.sl (.st SI.Lot)),(.sl (.st SI.eC)),(.sl (.st SI.Window)),(.sl (.st SI.ft)),(.sl (.st SI.Entry)),(.int .i64),(.int .i64),(.sl (.st SI.mj)),(.sl (.int .i64)),(.int .i64),(.sl (.st SI.Phase)),(.sl (.st SI.i8)),(.sl .str)]
 | .rL=>[(.sl (.st SI.Def)),(.sl (.st SI.Table)),(.sl (.st SI.Zone)),(.sl (.st SI.Rule)),(.sl (.st SI.Cap)),(.sl (.st SI.View)),(.sl (.st SI.gC)),(.int .i64),(.sl (.st SI.mj)),(.sl (.st SI.i8))]
 | .m4=>[.str,.str,.str,.str,.str,.str]
 | .graph=>[(.sl (.st SI.Def)),(.sl (.sl (.int .i64)))]
 | .k7=>[(.int .i64),(.int .i64),(.sl (.st SI.mj))]
 | .gj=>[(.int .i64),(.int .i64),(.int .i64),(.int .i64)]
 | .m5=>[(.int .i64),(.int .i64),(.int .i64),(.int .i64)]
 | .eo=>[(.int .i64),(.int .i64)]
def apP:(i:SI)->TT i->HL se (Vc i)
 | .Expr,x=>(x.op,x.n,x.s,x.key,x.args,())
 | .Def,x=>(x.name,x.ir,x.ly,x.kw,x.ii,x.ep,())
 | .Entry,x=>(x.name,x.n,())
 | .Table,x=>(x.name,x.rows,x.sn,())
 | .iv,x=>(x.x,x.y,())
 | .Zone,x=>(x.name,x.overlay,x.corners,())
 | .Rule,x=>(x.name,x.zones,x.except,x.from_,x.cM,x.y4,x.vary,x.kind,x.kB,x.mw,x.mn,x.jn,x.ga,x.hZ,x.ia,x.js,x.jt,x.uses,x.other,x.n,())
 | .Cap,x=>(x.name,x.load,x.limit,x.corners,())
 | .gC,x=>(x.x,x.y,x.z,())
 | .View,x=>(x.name,x.zj,x.zg,x.zd,x.least,x.targets,())
 | .k8,x=>(x.defs,x.tables,x.zones,x.rules,x.caps,x.views,x.nr,x.hours,())
 | .mj,x=>(x.x0,x.y0,x.x1,x.y1,())
 | .span,x=>(x.from_,x.to,())
 | .strip,x=>(x.x0,x.x1,x.column,())
 | .Lot,x=>(x.id,x.owner,x.area,x.from_,())
 | .j8,x=>(x.lot,x.use,x.floors,x.fW,())
 | .i8,x=>(x.bx,x.ci,x.bu,x.cg,x.ev,x.ec,x.use,x.units,x.extra,())
 | .Phase,x=>(x.cy,x.gives,())
 | .d5,x=>(x.lot,x.phases,())
 | .eC,x=>(x.lot,x.area,x.top,())
 | .Window,x=>(x.lot,x.IM,x.IH,x.IF,())
 | .ft,x=>(x.lot,x.eh,x.ee,x.ef,x.ed,x.lf,x.ld,x.ff,x.lO,x.lP,())
 | .ov,x=>(x.cj,x.ca,x.b8,x.bj,x.cw,x.cm,x.cD,x.co,x.land,x.bz,x.windows,x.built,x.base,())
 | .site,x=>(x.mA,x.mz,x.j0,x.kf,x.cz,x.cP,())
 | .Ek,x=>(x.oR,x.oB,x.oE,x.oA,x.z0,x.z1,())
 | .side,x=>(x.lz,x.pD,x.mi,x.t8,())
 | .ke,x=>(x.fm,x.eI,x.eS,x.eW,x.fp,x.eV,x.gh,x.fc,x.pT,x.ka,x.lR,x.fY,x.pZ,x.s8,x.mL,x.km,x.pc,x.cz,x.cP,x.cy,x.zones,())
 | .rL,x=>(x.cj,x.ca,x.b8,x.bj,x.cw,x.cm,x.cD,x.co,x.area,x.cy,())
 | .m4,x=>(x.a0,x.a1,x.a2,x.a3,x.a4,x.a5,())
 | .graph,x=>(x.defs,x.uses,())
 | .k7,x=>(x.z0,x.z1,x.area,())
 | .gj,x=>(x.side,x.base,x.num,x.den,())
 | .m5,x=>(x.a0,x.a1,x.a2,x.a3,())
 | .eo,x=>(x.a0,x.a1,())
def apw:(i:SI)->HL se (Vc i)->TT i
 | .Expr,h=>⟨h.1,h.2.1,h.2.2.1,h.2.2.2.1,h.2.2.2.2.1⟩
 | .Def,h=>⟨h.1,h.2.1,h.2.2.1,h.2.2.2.1,h.2.2.2.2.1,h.2.2.2.2.2.1⟩
 | .Entry,h=>⟨h.1,h.2.1⟩
 | .Table,h=>⟨h.1,h.2.1,h.2.2.1⟩
 | .iv,h=>⟨h.1,h.2.1⟩
 | .Zone,h=>⟨h.1,h.2.1,h.2.2.1⟩
 | .Rule,h=>⟨h.1,h.2.1,h.2.2.1,h.2.2.2.1,h.2.2.2.2.1,h.2.2.2.2.2.1,h.2.2.2.2.2.2.1,h.2.2.2.2.2.2.2.1,h.2.2.2.2.2.2.2.2.1,h.2.2.2.2.2.2.2.2.2.1,h.2.2.2.2.2.2.2.2.2.2.1,h.2.2.2.2.2.2.2.2.2.2.2.1,h.2.2.2.2.2.2.2.2.2.2.2.2.1,h.2.2.2.2.2.2.2.2.2.2.2.2.2.1,h.2.2.2.2.2.2.2.2.2.2.2.2.2.2.1,h.2.2.2.2.2.2.2.2.2.2.2.2.2.2.2.1,h.2.2.2.2.2.2.2.2.2.2.2.2.2.2.2.2.1,h.2.2.2.2.2.2.2.2.2.2.2.2.2.2.2.2.2.1,h.2.2.2.2.2.2.2.2.2.2.2.2.2.2.2.2.2.2.1,h.2.2.2.2.2.2.2.2.2.2.2.2.2.2.2.2.2.2.2.1⟩
 | .Cap,h=>⟨h.1,h.2.1,h.2.2.1,h.2.2.2.1⟩
 | .gC,h=>⟨h.1,h.2.1,h.2.2.1⟩
 | .View,h=>⟨h.1,h.2.1,h.2.2.1,h.2.2.2.1,h.2.2.2.2.1,h.2.2.2.2.2.1⟩
 | .k8,h=>⟨h.1,h.2.1,h.2.2.1,h.2.2.2.1,h.2.2.2.2.1,h.2.2.2.2.2.1,h.2.2.2.2.2.2.1,h.2.2.2.2.2.2.2.1⟩
 | .mj,h=>⟨h.1,h.2.1,h.2.2.1,h.2.2.2.1⟩
 | .span,h=>⟨h.1,h.2.1⟩
 | .strip,h=>⟨h.1,h.2.1,h.2.2.1⟩
 | .Lot,h=>⟨h.1,h.2.1,h.2.2.1,h.2.2.2.1⟩
 | .j8,h=>⟨h.1,h.2.1,h.2.2.1,h.2.2.2.1⟩
 | .i8,h=>⟨h.1,h.2.1,h.2.2.1,h.2.2.2.1,h.2.2.2.2.1,h.2.2.2.2.2.1,h.2.2.2.2.2.2.1,h.2.2.2.2.2.2.2.1,h.2.2.2.2.2.2.2.2.1⟩
 | .Phase,h=>⟨h.1,h.2.1⟩
 | .d5,h=>⟨h.1,h.2.1⟩
 | .eC,h=>⟨h.1,h.2.1,h.2.2.1⟩
 | .Window,h=>⟨h.1,h.2.1,h.2.2.1,h.2.2.2.1⟩
 | .ft,h=>⟨h.1,h.2.1,h.2.2.1,h.2.2.2.1,h.2.2.2.2.1,h.2.2.2.2.2.1,h.2.2.2.2.2.2.1,h.2.2.2.2.2.2.2.1,h.2.2.2.2.2.2.2.2.1,h.2.2.2.2.2.2.2.2.2.1⟩
 | .ov,h=>⟨h.1,h.2.1,h.2.2.1,h.2.2.2.1,h.2.2.2.2.1,h.2.2.2.2.2.1,h.2.2.2.2.2.2.1,h.2.2.2.2.2.2.2.1,h.2.2.2.2.2.2.2.2.1,h.2.2.2.2.2.2.2.2.2.1,h.2.2.2.2.2.2.2.2.2.2.1,h.2.2.2.2.2.2.2.2.2.2.2.1,h.2.2.2.2.2.2.2.2.2.2.2.2.1⟩
 | .site,h=>⟨h.1,h.2.1,h.2.2.1,h.2.2.2.1,h.2.2.2.2.1,h.2.2.2.2.2.1⟩
 | .Ek,h=>⟨h.1,h.2.1,h.2.2.1,h.2.2.2.1,h.2.2.2.2.1,h.2.2.2.2.2.1⟩
 | .side,h=>⟨h.1,h.2.1,h.2.2.1,h.2.2.2.1⟩
 | .ke,h=>⟨h.1,h.2.1,h.2.2.1,h.2.2.2.1,h.2.2.2.2.1,h.2.2.2.2.2.1,h.2.2.2.2.2.2.1,h.2.2.2.2.2.2.2.1,h.2.2.2.2.2.2.2.2.1,h.2.2.2.2.2.2.2.2.2.1,h.2.2.2.2.2.2.2.2.2.2.1,h.2.2.2.2.2.2.2.2.2.2.2.1,h.2.2.2.2.2.2.2.2.2.2.2.2.1,h.2.2.2.2.2.2.2.2.2.2.2.2.2.1,h.2.2.2.2.2.2.2.2.2.2.2.2.2.2.1,h.2.2.2.2.2.2.2.2.2.2.2.2.2.2.2.1,h.2.2.2.2.2.2.2.2.2.2.2.2.2.2.2.2.1,h.2.2.2.2.2.2.2.2.2.2.2.2.2.2.2.2.2.1,h.2.2.2.2.2.2.2.2.2.2.2.2.2.2.2.2.2.2.1,h.2.2.2.2.2.2.2.2.2.2.2.2.2.2.2.2.2.2.2.1,h.2.2.2.2.2.2.2.2.2.2.2.2.2.2.2.2.2.2.2.2.1⟩
 | .rL,h=>⟨h.1,h.2.1,h.2.2.1,h.2.2.2.1,h.2.2.2.2.1,h.2.2.2.2.2.1,h.2.2.2.2.2.2.1,h.2.2.2.2.2.2.2.1,h.2.2.2.2.2.2.2.2.1,h.2.2.2.2.2.2.2.2.2.1⟩
 | .m4,h=>⟨h.1,h.2.1,h.2.2.1,h.2.2.2.1,h.2.2.2.2.1,h.2.2.2.2.2.1⟩
 | .graph,h=>⟨h.1,h.2.1⟩
 | .k7,h=>⟨h.1,h.2.1,h.2.2.1⟩
 | .gj,h=>⟨h.1,h.2.1,h.2.2.1,h.2.2.2.1⟩
 | .m5,h=>⟨h.1,h.2.1,h.2.2.1,h.2.2.2.1⟩
 | .eo,h=>⟨h.1,h.2.1⟩
def gvS:Nat->J ((c:CT SI)×CT.T se c):=λ_=>none
def xx:SX:={ toSE:=se,cR:=Vc,get:=apP,make:=apw,l4:=by intro i x;cases i<;>first |rfl |exact WU _,gi:=by intro i h;cases i<;>first |rfl |exact WU _,flat:=by intro i;cases i<;>rfl,gv:=gvS,yW:=λ_=>rfl }
abbrev dc:Value:=.slice none 0 0
abbrev da:Value:=.int .i64 0
abbrev GS:Value:=.bool false
abbrev lL:Value:=.string ⟨#[]⟩
def tab:U (TypeId×nh):=[
 (2,⟨1,8,false,[da],.int .i64,[]⟩),
 (3,⟨1,8,false,[da],.int .i64,[]⟩),
 (4,⟨1,1,false,[GS],.bool,[]⟩),
 (9,⟨1,16,false,[lL],.str,[]⟩),
 (22,⟨1,24,false,[dc],.slice 139,[]⟩),
 (23,⟨1,24,false,[dc],.slice 141,[]⟩),
 (24,⟨1,24,false,[dc],.slice 144,[]⟩),
 (25,⟨1,24,false,[dc],.slice 107,[]⟩),
 (26,⟨1,24,false,[dc],.slice 146,[]⟩),
 (27,⟨1,24,false,[dc],.slice 393,[]⟩),
 (28,⟨1,24,false,[dc],.slice 391,[]⟩),
 (30,⟨8,176,true,[dc,dc,dc,dc,dc,dc,dc,da],.struct [(0,22),(1,23),(2,24),(3,25),(4,26),(5,27),(6,28),(7,3)],[]⟩),
 (31,⟨1,24,false,[dc],.slice 54,[]⟩),
 (32,⟨1,24,false,[dc],.slice 112,[]⟩),
 (33,⟨1,24,false,[dc],.slice 395,[]⟩),
 (34,⟨1,24,false,[dc],.slice 223,[]⟩),
 (35,⟨1,24,false,[dc],.slice 199,[]⟩),
 (37,⟨13,296,true,[dc,dc,dc,dc,dc,dc,dc,da,dc,dc,dc,dc,dc],.struct [(0,30),(8,31),(9,32),(10,33),(11,34),(12,35)],[]⟩),
 (40,⟨1,24,false,[dc],.slice 30,[]⟩),
 (42,⟨4,32,true,[da,da,da,da],.struct [(0,3),(1,3),(2,3),(3,3)],[0,0,0,0]⟩),
 (47,⟨1,24,false,[dc],.slice 4,[]⟩),
 (49,⟨1,24,false,[dc],.slice 42,[]⟩),
 (51,⟨1,24,false,[dc],.slice 66,[]⟩),
 (52,⟨1,24,false,[dc],.slice 3,[]⟩),
 (54,⟨4,64,true,[da,da,dc,dc],.struct [(0,3),(1,3),(2,51),(3,52)],[]⟩),
 (55,⟨1,24,false,[dc],.slice 95,[]⟩),
 (57,⟨2,32,true,[da,dc],.struct [(0,3),(1,55)],[]⟩),
 (66,⟨4,32,true,[da,da,da,da],.struct [(0,3),(1,3),(2,3),(3,3)],[0,0,0,0]⟩),
 (73,⟨1,24,false,[dc],.slice 76,[]⟩),
 (76,⟨6,64,true,[da,da,da,da,da,dc],.struct [(0,42),(4,57)],[]⟩),
 (78,⟨1,8,false,[.map none],.map 83 3,[]⟩),
 (79,⟨1,8,false,[.map none],.map 3 4,[]⟩),
 (83,⟨2,16,true,[da,da],.arr 2 3,[]⟩),
 (84,⟨1,8,false,[.nilFunc],.other,[]⟩),
 (90,⟨6,48,true,[da,da,da,da,da,da],.struct [(0,66),(4,3),(5,3)],[]⟩),
 (92,⟨9,72,true,[da,da,da,da,da,da,da,da,GS],.struct [(0,90),(6,3),(7,3),(8,4)],[]⟩),
 (93,⟨1,24,false,[dc],.slice 92,[]⟩),
 (95,⟨2,48,true,[dc,dc],.struct [(0,93),(1,35)],[]⟩),
 (96,⟨1,24,false,[dc],.slice 9,[]⟩),
 (101,⟨1,24,false,[dc],.slice 103,[]⟩),
 (103,⟨5,72,true,[da,da,lL,lL,dc],.struct [(0,3),(1,3),(2,9),(3,9),(4,101)],[]⟩),
 (105,⟨4,32,true,[da,da,da,da],.struct [(0,3),(1,3),(2,3),(3,3)],[0,0,0,0]⟩),
 (107,⟨20,232,true,[lL,dc,dc,da,da,da,GS,da,da,da,lL,lL,dc,da,da,da,da,da,da,da],.struct [(0,9),(1,96),(2,96),(3,3),(4,3),(5,3),(6,4),(7,3),(8,103),(13,105),(17,3),(18,3),(19,3)],[]⟩),
 (112,⟨3,40,true,[da,dc,da],.struct [(0,3),(1,51),(2,3)],[]⟩),
 (121,⟨1,8,false,[.int .u64 0],.int .u64,[]⟩),
 (124,⟨21,440,true,[dc,dc,dc,dc,dc,dc,dc,da,dc,dc,dc,dc,dc,da,da,dc,dc,da,dc,dc,dc],.struct [(0,37),(13,54),(17,57),(19,93),(20,96)],[]⟩),
 (133,⟨1,24,false,[dc],.slice 178,[]⟩),
 (139,⟨6,88,true,[lL,da,da,lL,lL,dc],.struct [(0,9),(1,103)],[]⟩),
 (141,⟨3,48,true,[lL,dc,da],.struct [(0,9),(1,35),(2,3)],[]⟩),
 (142,⟨1,24,false,[dc],.slice 249,[]⟩),
 (144,⟨3,48,true,[lL,GS,dc],.struct [(0,9),(1,4),(2,142)],[]⟩),
 (146,⟨4,56,true,[lL,da,da,dc],.struct [(0,9),(1,3),(2,3),(3,142)],[]⟩),
 (172,⟨1,24,false,[dc],.slice 105,[]⟩),
 (178,⟨3,40,true,[da,da,dc],.struct [(0,3),(1,3),(2,51)],[]⟩),
 (182,⟨1,24,false,[dc],.slice 186,[]⟩),
 (184,⟨1,24,false,[dc],.slice 236,[]⟩),
 (186,⟨3,40,true,[da,da,dc],.struct [(0,3),(1,3),(2,184)],[]⟩),
 (199,⟨2,24,true,[lL,da],.struct [(0,9),(1,3)],[2,0]⟩),
 (206,⟨1,8,false,[.map none],.map 9 3,[]⟩),
 (208,⟨10,208,true,[dc,dc,dc,dc,dc,dc,dc,da,.map none,dc],.struct [(0,30),(8,206),(9,96)],[]⟩),
 (211,⟨1,8,false,[.pointer none],.other,[]⟩),
 (213,⟨10,224,true,[dc,dc,dc,dc,dc,dc,dc,da,dc,dc],.struct [(0,30),(8,51),(9,93)],[]⟩),
 (215,⟨1,8,false,[.nilFunc],.other,[]⟩),
 (217,⟨2,24,true,[lL,.nilFunc],.struct [(0,9),(1,215)],[]⟩),
 (218,⟨18,216,true,[lL,.nilFunc,lL,.nilFunc,lL,.nilFunc,lL,.nilFunc,lL,.nilFunc,lL,.nilFunc,lL,.nilFunc,lL,.nilFunc,lL,.nilFunc],.arr 9 217,[]⟩),
 (223,⟨10,80,true,[da,da,da,da,da,da,da,da,da,GS],.struct [(0,3),(1,92)],[]⟩),
 (229,⟨1,24,false,[dc],.slice 51,[]⟩),
 (236,⟨2,16,true,[da,da],.struct [(0,3),(1,3)],[0,0]⟩),
 (246,⟨1,8,false,[.map none],.map 9 4,[]⟩),
 (249,⟨2,16,true,[da,da],.struct [(0,3),(1,3)],[0,0]⟩),
 (275,⟨1,24,false,[dc],.slice 184,[]⟩),
 (295,⟨4,32,true,[da,da,da,da],.arr 4 3,[]⟩),
 (312,⟨1,24,false,[dc],.slice 315,[]⟩),
 (315,⟨4,32,true,[da,da,da,da],.struct [(0,249),(2,249)],[]⟩),
 (316,⟨1,24,false,[dc],.slice 52,[]⟩),
 (318,⟨2,48,true,[dc,dc],.struct [(0,22),(1,316)],[]⟩),
 (328,⟨6,96,true,[lL,lL,lL,lL,lL,lL],.arr 6 9,[]⟩),
 (391,⟨3,24,true,[da,da,da],.struct [(0,3),(1,3),(2,3)],[0,0,0]⟩),
 (393,⟨6,72,true,[lL,da,da,da,da,dc],.struct [(0,9),(1,391),(4,3),(5,28)],[]⟩),
 (395,⟨4,32,true,[da,da,da,da],.struct [(0,3),(1,391)],[]⟩)]
def apx:U (TypeId×CT SI):=[(3,(.int .i64)),(4,.bool),(9,.str),(30,(.st SI.k8)),(42,(.st SI.j8)),(51,(.sl (.st SI.mj))),(54,(.st SI.Lot)),(66,(.st SI.mj)),(76,(.st SI.site)),(83,(.st SI.eo)),(92,(.st SI.i8)),(95,(.st SI.Phase)),(103,(.st SI.Expr)),(105,(.st SI.gj)),(107,(.st SI.Rule)),(178,(.st SI.k7)),(184,(.sl (.st SI.span))),(186,(.st SI.strip)),(199,(.st SI.Entry)),(236,(.st SI.span)),(315,(.st SI.side))]
def aop:TypeId->J (CT xx.ι):=lk apx
theorem MY:eY Tryz.prog (Rq tab):=akS (by kernel_rfl)
theorem mixed:Tryz.prog.follows .mixedOrders=true:=Checked.mixed Tryz.checked
theorem cq{f:FuncId}{fn:Func}{l:U (FuncId×b7 xx)}(hΓ:sL Tryz.prog (xm l))(hfn:Tryz.prog.funcs[f]? =some fn){s:b7 xx}(h:Hn SI)(n:Nat)
 (hq : (fn.body.isSome && !(fn.name == "runtime.NumGoroutine") && decide (s.args.length <= fn.ntmps /\ qi s.args <= 1000 /\ (s.res.filter RT.out).length = qi s.args)) = true := by kernel_rfl) (hg : s.gen = none := by rfl)
 (hr:∀a,run (xm l) (Rq tab) aop fn.ntmps n (fn.body.getD .skip) (sU xx s.res) h (xc s.args a) (apn (Rq tab) fn.results.toList s.res)=s.fn a:=by intro _;kernel_rfl):AE Tryz.prog f s:=by
 rw[aL,aL]at hq;obtain⟨⟨q1,q2⟩,q3⟩:=hq;have hb:fn.body=some (fn.body.getD .skip):=by
  cases hc:fn.body with
  |none=>rw[hc]at q1;cases q1
  |some c=>rfl
 have hn : (fn.name == "runtime.NumGoroutine") = false := by simpa using q2
 exact zr (ng hfn hb hn) (λ a _ e=>apo MY mixed hΓ hfn hb hn _ _ (of_decide_eq_true q3) h n ((hr a).trans e)) hg
theorem oy{f:FuncId}{fn:Func}{l:U (FuncId×b7 xx)}(hΓ:sL Tryz.prog (xm l))(hfn:Tryz.prog.funcs[f]? =some fn){g:c7 xx}(h:Hn SI)(n:Nat)
 (hq : (fn.body.isSome && !(fn.name == "runtime.NumGoroutine") && decide (g.pC.length <= fn.ntmps) && g.AS) = true)
 (hr:∀v,run (xm l) (Rq tab) aop fn.ntmps n (fn.body.getD .skip) (VT (X:=xx) (Ae g).vars) h (E7 g v) (aom (Rq tab) fn.results.toList g)=g.fn v):AE Tryz.prog f ⟨[],[.d .bool],λ_=>none,some g⟩:=by
 rw[aL,aL,aL]at hq;obtain⟨⟨⟨q1,q2⟩,q3⟩,q4⟩:=hq;have hb:fn.body=some (fn.body.getD .skip):=by
  cases hc:fn.body with
  |none=>rw[hc]at q1;cases q1
  |some c=>rfl
 have hn : (fn.name == "runtime.NumGoroutine") = false := by simpa using q2
 exact L4 (ng hfn hb hn) (aoN MY mixed hΓ hfn hb hn g (of_decide_eq_true q3) q4 h n (λ v _ e=>(hr v).trans e))
theorem gcn:sL Tryz.prog (xm ([]:U (FuncId×b7 xx))):=aB
abbrev ah:CT SI:=.int .i64
abbrev bC:CT SI:=.st SI.Def
abbrev bn:CT SI:=.st SI.Table
abbrev bE:CT SI:=.st SI.Zone
abbrev bB:CT SI:=.st SI.Rule
abbrev bK:CT SI:=.st SI.Cap
abbrev aW:CT SI:=.st SI.gC
abbrev bG:CT SI:=.st SI.View
abbrev dF:CT SI:=.st SI.k8
abbrev ay:CT SI:=.st SI.mj
abbrev iU:CT SI:=.st SI.Lot
abbrev fe:CT SI:=.st SI.j8
abbrev aG:CT SI:=.st SI.i8
abbrev fH:CT SI:=.st SI.ov
abbrev aJ(f:Nat)(s:b7 xx):Prop:=AE Tryz.prog f s
abbrev gU:=(List fw)×(List cB)×(List dN)×(List bV)×(List fZ)×(List eU)×(List bW)×Int×(List ax)×(List aH)
end Go.Proofs
