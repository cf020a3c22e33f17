/-
  Printed by wip/gen: what functions of the program compute, and that they do.
-/
import Derived.Test.YtfidjjngahhkkaaGreatDoorL1
import Derived.Test.YtfidjjngahhkkaaGreatDoorChecked
open Bool (and_eq_true)
namespace Go.Proofs
open Go.Gb Go.RowKit
structure oQ where
 op:Int
 n:Int
 s:ByteArray
 key:ByteArray
 args:(List oQ)
mutual
def yA:oQ->List Tree
 |⟨f0,f1,f2,f3,f4⟩=>[.sc (.int .i64 f0),.sc (.int .i64 f1),.sc (.string f2),.sc (.string f3),.sl (Jl f4)]
def Jl:List oQ->List (List Tree)
 |[]=>[]
 |x::xs=>yA x::Jl xs
end
theorem Jm:∀ l:List oQ,Jl l=l.map yA
 |[]=>rfl
 |x::xs=>by rw[Jl,Jm xs];rfl
theorem QT (x:oQ):yA x=[.sc (.int .i64 x.op),.sc (.int .i64 x.n),.sc (.string x.s),.sc (.string x.key),.sl (x.args.map yA)]:=by cases x;simp only[yA,Jm]
structure aeE where
 name:ByteArray
 body_op:Int
 body_n:Int
 body_s:ByteArray
 body_key:ByteArray
 body_args:(List oQ)
def Z8 (x:aeE):List Tree:=[.sc (.string x.name),.sc (.int .i64 x.body_op),.sc (.int .i64 x.body_n),.sc (.string x.body_s),.sc (.string x.body_key),.sl (x.body_args.map yA)]
structure VO where
 name:ByteArray
 n:Int
 deriving DecidableEq,Inhabited
def QU (x:VO):List Tree:=[.sc (.string x.name),.sc (.int .i64 x.n)]
structure VP where
 name:ByteArray
 rows:(List VO)
 else_:Int
 deriving DecidableEq,Inhabited
def QV (x:VP):List Tree:=[.sc (.string x.name),.sl (x.rows.map QU),.sc (.int .i64 x.else_)]
structure bK where
 x:Int
 y:Int
 deriving DecidableEq,Inhabited
def QW (x:bK):List Tree:=[.sc (.int .i64 x.x),.sc (.int .i64 x.y)]
structure uP where
 name:ByteArray
 overlay:Bool
 corners:(List bK)
 deriving DecidableEq,Inhabited
def VQ (x:uP):List Tree:=[.sc (.string x.name),.sc (.bool x.overlay),.sl (x.corners.map QW)]
structure eG where
 name:ByteArray
 zones:(List ByteArray)
 except:(List ByteArray)
 from_:Int
 until_:Int
 grace:Int
 vary:Bool
 kind:Int
 test_op:Int
 test_n:Int
 test_s:ByteArray
 test_key:ByteArray
 test_args:(List oQ)
 plane_side:Int
 plane_base:Int
 plane_num:Int
 plane_den:Int
 uses:Int
 other:Int
 n:Int
def VU (x:eG):List Tree:=[.sc (.string x.name),.sl (x.zones.map (fun y=>[.sc (.string y)])),.sl (x.except.map (fun y=>[.sc (.string y)])),.sc (.int .i64 x.from_),.sc (.int .i64 x.until_),.sc (.int .i64 x.grace),.sc (.bool x.vary),.sc (.int .i64 x.kind),.sc (.int .i64 x.test_op),.sc (.int .i64 x.test_n),.sc (.string x.test_s),.sc (.string x.test_key),.sl (x.test_args.map yA),.sc (.int .i64 x.plane_side),.sc (.int .i64 x.plane_base),.sc (.int .i64 x.plane_num),.sc (.int .i64 x.plane_den),.sc (.int .i64 x.uses),.sc (.int .i64 x.other),.sc (.int .i64 x.n)]
structure aeF where
 name:ByteArray
 load:Int
 limit:Int
 corners:(List bK)
 deriving DecidableEq,Inhabited
def Z9 (x:aeF):List Tree:=[.sc (.string x.name),.sc (.int .i64 x.load),.sc (.int .i64 x.limit),.sl (x.corners.map QW)]
structure Jo where
 x:Int
 y:Int
 z:Int
 deriving DecidableEq,Inhabited
def Fu (x:Jo):List Tree:=[.sc (.int .i64 x.x),.sc (.int .i64 x.y),.sc (.int .i64 x.z)]
structure aa9 where
 name:ByteArray
 eye_x:Int
 eye_y:Int
 eye_z:Int
 least:Int
 targets:(List Jo)
 deriving DecidableEq,Inhabited
def VW (x:aa9):List Tree:=[.sc (.string x.name),.sc (.int .i64 x.eye_x),.sc (.int .i64 x.eye_y),.sc (.int .i64 x.eye_z),.sc (.int .i64 x.least),.sl (x.targets.map Fu)]
structure aj where
 x0:Int
 y0:Int
 x1:Int
 y1:Int
 deriving DecidableEq,Inhabited
def iV (x:aj):List Tree:=[.sc (.int .i64 x.x0),.sc (.int .i64 x.y0),.sc (.int .i64 x.x1),.sc (.int .i64 x.y1)]
structure sM where
 id:Int
 owner:Int
 area:(List aj)
 from_:(List Int)
 deriving DecidableEq,Inhabited
def aac (x:sM):List Tree:=[.sc (.int .i64 x.id),.sc (.int .i64 x.owner),.sl (x.area.map iV),.sl (x.from_.map (fun y=>[.sc (.int .i64 y)]))]
structure aX where
 lot:Int
 area:(List aj)
 top:Int
 deriving DecidableEq,Inhabited
def Nf (x:aX):List Tree:=[.sc (.int .i64 x.lot),.sl (x.area.map iV),.sc (.int .i64 x.top)]
structure VX where
 lot:Int
 at_x:Int
 at_y:Int
 at_z:Int
 deriving DecidableEq,Inhabited
def Ur (x:VX):List Tree:=[.sc (.int .i64 x.lot),.sc (.int .i64 x.at_x),.sc (.int .i64 x.at_y),.sc (.int .i64 x.at_z)]
structure VY where
 lot:Int
 volume_box_base_x0:Int
 volume_box_base_y0:Int
 volume_box_base_x1:Int
 volume_box_base_y1:Int
 volume_box_z0:Int
 volume_box_z1:Int
 volume_use:Int
 volume_units:Int
 volume_extra:Bool
 deriving DecidableEq,Inhabited
def Us (x:VY):List Tree:=[.sc (.int .i64 x.lot),.sc (.int .i64 x.volume_box_base_x0),.sc (.int .i64 x.volume_box_base_y0),.sc (.int .i64 x.volume_box_base_x1),.sc (.int .i64 x.volume_box_base_y1),.sc (.int .i64 x.volume_box_z0),.sc (.int .i64 x.volume_box_z1),.sc (.int .i64 x.volume_use),.sc (.int .i64 x.volume_units),.sc (.bool x.volume_extra)]
structure dJ where
 plan_defs:(List aeE)
 plan_tables:(List VP)
 plan_zones:(List uP)
 plan_rules:(List eG)
 plan_caps:(List aeF)
 plan_views:(List aa9)
 plan_sun:(List Jo)
 plan_hours:Int
 land:(List sM)
 easements:(List aX)
 windows:(List VX)
 built:(List VY)
 base:(List VO)
def aeG (x:dJ):List Tree:=[.sl (x.plan_defs.map Z8),.sl (x.plan_tables.map QV),.sl (x.plan_zones.map VQ),.sl (x.plan_rules.map VU),.sl (x.plan_caps.map Z9),.sl (x.plan_views.map VW),.sl (x.plan_sun.map Fu),.sc (.int .i64 x.plan_hours),.sl (x.land.map aac),.sl (x.easements.map Nf),.sl (x.windows.map Ur),.sl (x.built.map Us),.sl (x.base.map QU)]
structure aA where
 from_:Int
 to:Int
 deriving DecidableEq,Inhabited
def abb (x:aA):List Tree:=[.sc (.int .i64 x.from_),.sc (.int .i64 x.to)]
structure aI where
 x0:Int
 x1:Int
 column:(List aA)
 deriving DecidableEq,Inhabited
def ady (x:aI):List Tree:=[.sc (.int .i64 x.x0),.sc (.int .i64 x.x1),.sl (x.column.map abb)]
structure fQ where
 a_x:Int
 a_y:Int
 b_x:Int
 b_y:Int
 deriving DecidableEq,Inhabited
def aeH (x:fQ):List Tree:=[.sc (.int .i64 x.a_x),.sc (.int .i64 x.a_y),.sc (.int .i64 x.b_x),.sc (.int .i64 x.b_y)]
structure wL where
 defs:(List aeE)
 tables:(List VP)
 zones:(List uP)
 rules:(List eG)
 caps:(List aeF)
 views:(List aa9)
 sun:(List Jo)
 hours:Int
def aeI (x:wL):List Tree:=[.sl (x.defs.map Z8),.sl (x.tables.map QV),.sl (x.zones.map VQ),.sl (x.rules.map VU),.sl (x.caps.map Z9),.sl (x.views.map VW),.sl (x.sun.map Fu),.sc (.int .i64 x.hours)]
structure aK where
 from_:Int
 to:Int
 deriving DecidableEq,Inhabited
def Ah (x:aK):List Tree:=[.sc (.int .i64 x.from_),.sc (.int .i64 x.to)]
structure aS where
 x0:Int
 x1:Int
 column:(List aK)
 deriving DecidableEq,Inhabited
def Jp (x:aS):List Tree:=[.sc (.int .i64 x.x0),.sc (.int .i64 x.x1),.sl (x.column.map Ah)]
structure aY where
 side:Int
 base:Int
 num:Int
 den:Int
 deriving DecidableEq,Inhabited
def adz (x:aY):List Tree:=[.sc (.int .i64 x.side),.sc (.int .i64 x.base),.sc (.int .i64 x.num),.sc (.int .i64 x.den)]
structure uQ where
 z0:Int
 z1:Int
 area:(List aj)
 deriving DecidableEq,Inhabited
def aeJ (x:uQ):List Tree:=[.sc (.int .i64 x.z0),.sc (.int .i64 x.z1),.sl (x.area.map iV)]
structure Jq where
 a0:Int
 a1:Int
 a2:Int
 a3:Int
 deriving DecidableEq,Inhabited
def ab3 (x:Jq):List Tree:=[.sc (.int .i64 x.a0),.sc (.int .i64 x.a1),.sc (.int .i64 x.a2),.sc (.int .i64 x.a3)]
inductive SI where
 |Expr
 |Def
 |Entry
 |Table
 |Point
 |Zone
 |Rule
 |Cap
 |Point3
 |View
 |Rect
 |Lot
 |Easement
 |Window
 |Placed
 |Town
 |span
 |strip
 |side
 |Plan
 |ospan
 |slab
 |Plane
 |Slab
 |A4_i64
 deriving DecidableEq
@[reducible] def TT:SI->Type
 | .Expr=>oQ
 | .Def=>aeE
 | .Entry=>VO
 | .Table=>VP
 | .Point=>bK
 | .Zone=>uP
 | .Rule=>eG
 | .Cap=>aeF
 | .Point3=>Jo
 | .View=>aa9
 | .Rect=>aj
 | .Lot=>sM
 | .Easement=>aX
 | .Window=>VX
 | .Placed=>VY
 | .Town=>dJ
 | .span=>aA
 | .strip=>aI
 | .side=>fQ
 | .Plan=>wL
 | .ospan=>aK
 | .slab=>aS
 | .Plane=>aY
 | .Slab=>uQ
 | .A4_i64=>Jq
def agC:(i:SI)->TT i->List Tree
 | .Expr,x=>yA x
 | .Def,x=>Z8 x
 | .Entry,x=>QU x
 | .Table,x=>QV x
 | .Point,x=>QW x
 | .Zone,x=>VQ x
 | .Rule,x=>VU x
 | .Cap,x=>Z9 x
 | .Point3,x=>Fu x
 | .View,x=>VW x
 | .Rect,x=>iV x
 | .Lot,x=>aac x
 | .Easement,x=>Nf x
 | .Window,x=>Ur x
 | .Placed,x=>Us x
 | .Town,x=>aeG x
 | .span,x=>abb x
 | .strip,x=>ady x
 | .side,x=>aeH x
 | .Plan,x=>aeI x
 | .ospan,x=>Ah x
 | .slab,x=>Jp x
 | .Plane,x=>adz x
 | .Slab,x=>aeJ x
 | .A4_i64,x=>ab3 x
def se:SE:=⟨SI,inferInstance,TT,agC⟩
def afF:SI->List (CT SI)
 | .Expr=>[(.int .i64),(.int .i64),.str,.str,(.sl (.st SI.Expr))]
 | .Def=>[.str,(.int .i64),(.int .i64),.str,.str,(.sl (.st SI.Expr))]
 | .Entry=>[.str,(.int .i64)]
 | .Table=>[.str,(.sl (.st SI.Entry)),(.int .i64)]
 | .Point=>[(.int .i64),(.int .i64)]
 | .Zone=>[.str,.bool,(.sl (.st SI.Point))]
 | .Rule=>[.str,(.sl .str),(.sl .str),(.int .i64),(.int .i64),(.int .i64),.bool,(.int .i64),(.int .i64),(.int .i64),.str,.str,(.sl (.st SI.Expr)),(.int .i64),(.int .i64),(.int .i64),(.int .i64),(.int .i64),(.int .i64),(.int .i64)]
 | .Cap=>[.str,(.int .i64),(.int .i64),(.sl (.st SI.Point))]
 | .Point3=>[(.int .i64),(.int .i64),(.int .i64)]
 | .View=>[.str,(.int .i64),(.int .i64),(.int .i64),(.int .i64),(.sl (.st SI.Point3))]
 | .Rect=>[(.int .i64),(.int .i64),(.int .i64),(.int .i64)]
 | .Lot=>[(.int .i64),(.int .i64),(.sl (.st SI.Rect)),(.sl (.int .i64))]
 | .Easement=>[(.int .i64),(.sl (.st SI.Rect)),(.int .i64)]
 | .Window=>[(.int .i64),(.int .i64),(.int .i64),(.int .i64)]
 | .Placed=>[(.int .i64),(.int .i64),(.int .i64),(.int .i64),(.int .i64),(.int .i64),(.int .i64),(.int .i64),(.int .i64),.bool]
 | .Town=>[(.sl (.st SI.Def)),(.sl (.st SI.Table)),(.sl (.st SI.Zone)),(.sl (.st SI.Rule)),(.sl (.st SI.Cap)),(.sl (.st SI.View)),(.sl (.st SI.Point3)),(.int .i64),(.sl (.st SI.Lot)),(.sl (.st SI.Easement)),(.sl (.st SI.Window)),(.sl (.st SI.Placed)),(.sl (.st SI.Entry))]
 | .span=>[(.int .i64),(.int .i64)]
 | .strip=>[(.int .i64),(.int .i64),(.sl (.st SI.span))]
 | .side=>[(.int .i64),(.int .i64),(.int .i64),(.int .i64)]
 | .Plan=>[(.sl (.st SI.Def)),(.sl (.st SI.Table)),(.sl (.st SI.Zone)),(.sl (.st SI.Rule)),(.sl (.st SI.Cap)),(.sl (.st SI.View)),(.sl (.st SI.Point3)),(.int .i64)]
 | .ospan=>[(.int .i64),(.int .i64)]
 | .slab=>[(.int .i64),(.int .i64),(.sl (.st SI.ospan))]
 | .Plane=>[(.int .i64),(.int .i64),(.int .i64),(.int .i64)]
 | .Slab=>[(.int .i64),(.int .i64),(.sl (.st SI.Rect))]
 | .A4_i64=>[(.int .i64),(.int .i64),(.int .i64),(.int .i64)]
def agD:(i:SI)->TT i->HL se (afF i)
 | .Expr,x=>(x.op,x.n,x.s,x.key,x.args,())
 | .Def,x=>(x.name,x.body_op,x.body_n,x.body_s,x.body_key,x.body_args,())
 | .Entry,x=>(x.name,x.n,())
 | .Table,x=>(x.name,x.rows,x.else_,())
 | .Point,x=>(x.x,x.y,())
 | .Zone,x=>(x.name,x.overlay,x.corners,())
 | .Rule,x=>(x.name,x.zones,x.except,x.from_,x.until_,x.grace,x.vary,x.kind,x.test_op,x.test_n,x.test_s,x.test_key,x.test_args,x.plane_side,x.plane_base,x.plane_num,x.plane_den,x.uses,x.other,x.n,())
 | .Cap,x=>(x.name,x.load,x.limit,x.corners,())
 | .Point3,x=>(x.x,x.y,x.z,())
 | .View,x=>(x.name,x.eye_x,x.eye_y,x.eye_z,x.least,x.targets,())
 | .Rect,x=>(x.x0,x.y0,x.x1,x.y1,())
 | .Lot,x=>(x.id,x.owner,x.area,x.from_,())
 | .Easement,x=>(x.lot,x.area,x.top,())
 | .Window,x=>(x.lot,x.at_x,x.at_y,x.at_z,())
 | .Placed,x=>(x.lot,x.volume_box_base_x0,x.volume_box_base_y0,x.volume_box_base_x1,x.volume_box_base_y1,x.volume_box_z0,x.volume_box_z1,x.volume_use,x.volume_units,x.volume_extra,())
 | .Town,x=>(x.plan_defs,x.plan_tables,x.plan_zones,x.plan_rules,x.plan_caps,x.plan_views,x.plan_sun,x.plan_hours,x.land,x.easements,x.windows,x.built,x.base,())
 | .span,x=>(x.from_,x.to,())
 | .strip,x=>(x.x0,x.x1,x.column,())
 | .side,x=>(x.a_x,x.a_y,x.b_x,x.b_y,())
 | .Plan,x=>(x.defs,x.tables,x.zones,x.rules,x.caps,x.views,x.sun,x.hours,())
 | .ospan,x=>(x.from_,x.to,())
 | .slab,x=>(x.x0,x.x1,x.column,())
 | .Plane,x=>(x.side,x.base,x.num,x.den,())
 | .Slab,x=>(x.z0,x.z1,x.area,())
 | .A4_i64,x=>(x.a0,x.a1,x.a2,x.a3,())
def agb:(i:SI)->HL se (afF i)->TT i
 | .Expr,h=>⟨h.1,h.2.1,h.2.2.1,h.2.2.2.1,h.2.2.2.2.1⟩
 | .Def,h=>⟨h.1,h.2.1,h.2.2.1,h.2.2.2.1,h.2.2.2.2.1,h.2.2.2.2.2.1⟩
 | .Entry,h=>⟨h.1,h.2.1⟩
 | .Table,h=>⟨h.1,h.2.1,h.2.2.1⟩
 | .Point,h=>⟨h.1,h.2.1⟩
 | .Zone,h=>⟨h.1,h.2.1,h.2.2.1⟩
 | .Rule,h=>⟨h.1,h.2.1,h.2.2.1,h.2.2.2.1,h.2.2.2.2.1,h.2.2.2.2.2.1,h.2.2.2.2.2.2.1,h.2.2.2.2.2.2.2.1,h.2.2.2.2.2.2.2.2.1,h.2.2.2.2.2.2.2.2.2.1,h.2.2.2.2.2.2.2.2.2.2.1,h.2.2.2.2.2.2.2.2.2.2.2.1,h.2.2.2.2.2.2.2.2.2.2.2.2.1,h.2.2.2.2.2.2.2.2.2.2.2.2.2.1,h.2.2.2.2.2.2.2.2.2.2.2.2.2.2.1,h.2.2.2.2.2.2.2.2.2.2.2.2.2.2.2.1,h.2.2.2.2.2.2.2.2.2.2.2.2.2.2.2.2.1,h.2.2.2.2.2.2.2.2.2.2.2.2.2.2.2.2.2.1,h.2.2.2.2.2.2.2.2.2.2.2.2.2.2.2.2.2.2.1,h.2.2.2.2.2.2.2.2.2.2.2.2.2.2.2.2.2.2.2.1⟩
 | .Cap,h=>⟨h.1,h.2.1,h.2.2.1,h.2.2.2.1⟩
 | .Point3,h=>⟨h.1,h.2.1,h.2.2.1⟩
 | .View,h=>⟨h.1,h.2.1,h.2.2.1,h.2.2.2.1,h.2.2.2.2.1,h.2.2.2.2.2.1⟩
 | .Rect,h=>⟨h.1,h.2.1,h.2.2.1,h.2.2.2.1⟩
 | .Lot,h=>⟨h.1,h.2.1,h.2.2.1,h.2.2.2.1⟩
 | .Easement,h=>⟨h.1,h.2.1,h.2.2.1⟩
 | .Window,h=>⟨h.1,h.2.1,h.2.2.1,h.2.2.2.1⟩
 | .Placed,h=>⟨h.1,h.2.1,h.2.2.1,h.2.2.2.1,h.2.2.2.2.1,h.2.2.2.2.2.1,h.2.2.2.2.2.2.1,h.2.2.2.2.2.2.2.1,h.2.2.2.2.2.2.2.2.1,h.2.2.2.2.2.2.2.2.2.1⟩
 | .Town,h=>⟨h.1,h.2.1,h.2.2.1,h.2.2.2.1,h.2.2.2.2.1,h.2.2.2.2.2.1,h.2.2.2.2.2.2.1,h.2.2.2.2.2.2.2.1,h.2.2.2.2.2.2.2.2.1,h.2.2.2.2.2.2.2.2.2.1,h.2.2.2.2.2.2.2.2.2.2.1,h.2.2.2.2.2.2.2.2.2.2.2.1,h.2.2.2.2.2.2.2.2.2.2.2.2.1⟩
 | .span,h=>⟨h.1,h.2.1⟩
 | .strip,h=>⟨h.1,h.2.1,h.2.2.1⟩
 | .side,h=>⟨h.1,h.2.1,h.2.2.1,h.2.2.2.1⟩
 | .Plan,h=>⟨h.1,h.2.1,h.2.2.1,h.2.2.2.1,h.2.2.2.2.1,h.2.2.2.2.2.1,h.2.2.2.2.2.2.1,h.2.2.2.2.2.2.2.1⟩
 | .ospan,h=>⟨h.1,h.2.1⟩
 | .slab,h=>⟨h.1,h.2.1,h.2.2.1⟩
 | .Plane,h=>⟨h.1,h.2.1,h.2.2.1,h.2.2.2.1⟩
 | .Slab,h=>⟨h.1,h.2.1,h.2.2.1⟩
 | .A4_i64,h=>⟨h.1,h.2.1,h.2.2.1,h.2.2.2.1⟩
def gv0:aj:=⟨0,0,1048576,1048576⟩
def gvS:Nat->Option ((c:CT SI)×CT.T se c)
 | 0=>some ⟨(.st SI.Rect),gv0⟩
 |_=>none
def xx:SX:={ toSE:=se,tys:=afF,get:=agD,make:=agb,row_get:=by intro i x;cases i<;>first |rfl |exact QT _,row_make:=by intro i h;cases i<;>first |rfl |exact QT _,flat:=by intro i;cases i<;>rfl,gv:=gvS,gv_ok:=by intro g;match g with | 0=>rfl |_+1=>rfl }
def tab:List (TypeId×TyI):=[
 (3,⟨1,8,false,[.int .i64 0],.int .i64,[]⟩),
 (4,⟨1,1,false,[.bool false],.bool,[]⟩),
 (5,⟨1,1,false,[.int .u8 0],.int .u8,[]⟩),
 (9,⟨1,16,false,[.string ⟨#[]⟩],.str,[]⟩),
 (22,⟨1,24,false,[.slice none 0 0],.slice 284,[]⟩),
 (23,⟨1,24,false,[.slice none 0 0],.slice 314,[]⟩),
 (24,⟨1,24,false,[.slice none 0 0],.slice 210,[]⟩),
 (25,⟨1,24,false,[.slice none 0 0],.slice 80,[]⟩),
 (26,⟨1,24,false,[.slice none 0 0],.slice 163,[]⟩),
 (27,⟨1,24,false,[.slice none 0 0],.slice 402,[]⟩),
 (28,⟨1,24,false,[.slice none 0 0],.slice 400,[]⟩),
 (30,⟨8,176,true,[.slice none 0 0,.slice none 0 0,.slice none 0 0,.slice none 0 0,.slice none 0 0,.slice none 0 0,.slice none 0 0,.int .i64 0],.struct [(0,22),(1,23),(2,24),(3,25),(4,26),(5,27),(6,28),(7,3)],[]⟩),
 (31,⟨1,24,false,[.slice none 0 0],.slice 59,[]⟩),
 (32,⟨1,24,false,[.slice none 0 0],.slice 72,[]⟩),
 (33,⟨1,24,false,[.slice none 0 0],.slice 404,[]⟩),
 (34,⟨1,24,false,[.slice none 0 0],.slice 252,[]⟩),
 (35,⟨1,24,false,[.slice none 0 0],.slice 159,[]⟩),
 (37,⟨13,296,true,[.slice none 0 0,.slice none 0 0,.slice none 0 0,.slice none 0 0,.slice none 0 0,.slice none 0 0,.slice none 0 0,.int .i64 0,.slice none 0 0,.slice none 0 0,.slice none 0 0,.slice none 0 0,.slice none 0 0],.struct [(0,30),(8,31),(9,32),(10,33),(11,34),(12,35)],[]⟩),
 (38,⟨1,24,false,[.slice none 0 0],.slice 56,[]⟩),
 (47,⟨1,24,false,[.slice none 0 0],.slice 50,[]⟩),
 (50,⟨4,32,true,[.int .i64 0,.int .i64 0,.int .i64 0,.int .i64 0],.struct [(0,3),(1,3),(2,3),(3,3)],[0,0,0,0]⟩),
 (51,⟨1,24,false,[.slice none 0 0],.slice 118,[]⟩),
 (56,⟨1,24,false,[.slice none 0 0],.slice 66,[]⟩),
 (57,⟨1,24,false,[.slice none 0 0],.slice 3,[]⟩),
 (59,⟨4,64,true,[.int .i64 0,.int .i64 0,.slice none 0 0,.slice none 0 0],.struct [(0,3),(1,3),(2,56),(3,57)],[]⟩),
 (66,⟨4,32,true,[.int .i64 0,.int .i64 0,.int .i64 0,.int .i64 0],.struct [(0,3),(1,3),(2,3),(3,3)],[0,0,0,0]⟩),
 (72,⟨3,40,true,[.int .i64 0,.slice none 0 0,.int .i64 0],.struct [(0,3),(1,56),(2,3)],[]⟩),
 (75,⟨1,24,false,[.slice none 0 0],.slice 9,[]⟩),
 (76,⟨1,24,false,[.slice none 0 0],.slice 78,[]⟩),
 (78,⟨5,72,true,[.int .i64 0,.int .i64 0,.string ⟨#[]⟩,.string ⟨#[]⟩,.slice none 0 0],.struct [(0,3),(1,3),(2,9),(3,9),(4,76)],[]⟩),
 (80,⟨20,232,true,[.string ⟨#[]⟩,.slice none 0 0,.slice none 0 0,.int .i64 0,.int .i64 0,.int .i64 0,.bool false,.int .i64 0,.int .i64 0,.int .i64 0,.string ⟨#[]⟩,.string ⟨#[]⟩,.slice none 0 0,.int .i64 0,.int .i64 0,.int .i64 0,.int .i64 0,.int .i64 0,.int .i64 0,.int .i64 0],.struct [(0,9),(1,75),(2,75),(3,3),(4,3),(5,3),(6,4),(7,3),(8,78),(13,50),(17,3),(18,3),(19,3)],[]⟩),
 (92,⟨6,48,true,[.int .i64 0,.int .i64 0,.int .i64 0,.int .i64 0,.int .i64 0,.int .i64 0],.struct [(0,66),(4,3),(5,3)],[]⟩),
 (94,⟨9,72,true,[.int .i64 0,.int .i64 0,.int .i64 0,.int .i64 0,.int .i64 0,.int .i64 0,.int .i64 0,.int .i64 0,.bool false],.struct [(0,92),(6,3),(7,3),(8,4)],[]⟩),
 (118,⟨3,40,true,[.int .i64 0,.int .i64 0,.slice none 0 0],.struct [(0,3),(1,3),(2,56)],[]⟩),
 (122,⟨1,24,false,[.slice none 0 0],.slice 126,[]⟩),
 (124,⟨1,24,false,[.slice none 0 0],.slice 132,[]⟩),
 (126,⟨3,40,true,[.int .i64 0,.int .i64 0,.slice none 0 0],.struct [(0,3),(1,3),(2,124)],[]⟩),
 (132,⟨2,16,true,[.int .i64 0,.int .i64 0],.struct [(0,3),(1,3)],[0,0]⟩),
 (159,⟨2,24,true,[.string ⟨#[]⟩,.int .i64 0],.struct [(0,9),(1,3)],[2,0]⟩),
 (161,⟨1,24,false,[.slice none 0 0],.slice 259,[]⟩),
 (163,⟨4,56,true,[.string ⟨#[]⟩,.int .i64 0,.int .i64 0,.slice none 0 0],.struct [(0,9),(1,3),(2,3),(3,161)],[]⟩),
 (178,⟨1,8,false,[.int .u64 0],.int .u64,[]⟩),
 (184,⟨4,32,true,[.int .i64 0,.int .i64 0,.int .i64 0,.int .i64 0],.arr 4 3,[]⟩),
 (188,⟨1,24,false,[.slice none 0 0],.slice 230,[]⟩),
 (210,⟨3,48,true,[.string ⟨#[]⟩,.bool false,.slice none 0 0],.struct [(0,9),(1,4),(2,161)],[]⟩),
 (221,⟨1,4,false,[.int .u32 0],.int .u32,[]⟩),
 (223,⟨1,8,false,[.int .u64 0],.int .u64,[]⟩),
 (226,⟨1,24,false,[.slice none 0 0],.slice 228,[]⟩),
 (228,⟨2,16,true,[.int .i64 0,.int .i64 0],.struct [(0,3),(1,3)],[0,0]⟩),
 (230,⟨3,40,true,[.int .i64 0,.int .i64 0,.slice none 0 0],.struct [(0,3),(1,3),(2,226)],[]⟩),
 (252,⟨10,80,true,[.int .i64 0,.int .i64 0,.int .i64 0,.int .i64 0,.int .i64 0,.int .i64 0,.int .i64 0,.int .i64 0,.int .i64 0,.bool false],.struct [(0,3),(1,94)],[]⟩),
 (259,⟨2,16,true,[.int .i64 0,.int .i64 0],.struct [(0,3),(1,3)],[0,0]⟩),
 (265,⟨1,8,false,[.int .u64 0],.int .u64,[]⟩),
 (284,⟨6,88,true,[.string ⟨#[]⟩,.int .i64 0,.int .i64 0,.string ⟨#[]⟩,.string ⟨#[]⟩,.slice none 0 0],.struct [(0,9),(1,78)],[]⟩),
 (314,⟨3,48,true,[.string ⟨#[]⟩,.slice none 0 0,.int .i64 0],.struct [(0,9),(1,35),(2,3)],[]⟩),
 (325,⟨1,24,false,[.slice none 0 0],.slice 328,[]⟩),
 (328,⟨4,32,true,[.int .i64 0,.int .i64 0,.int .i64 0,.int .i64 0],.struct [(0,259),(2,259)],[]⟩),
 (400,⟨3,24,true,[.int .i64 0,.int .i64 0,.int .i64 0],.struct [(0,3),(1,3),(2,3)],[0,0,0]⟩),
 (402,⟨6,72,true,[.string ⟨#[]⟩,.int .i64 0,.int .i64 0,.int .i64 0,.int .i64 0,.slice none 0 0],.struct [(0,9),(1,400),(4,3),(5,28)],[]⟩),
 (404,⟨4,32,true,[.int .i64 0,.int .i64 0,.int .i64 0,.int .i64 0],.struct [(0,3),(1,400)],[]⟩)]
def agc:List (TypeId×CT SI):=[(3,(.int .i64)),(9,.str),(50,(.st SI.Plane)),(56,(.sl (.st SI.Rect))),(59,(.st SI.Lot)),(66,(.st SI.Rect)),(72,(.st SI.Easement)),(78,(.st SI.Expr)),(80,(.st SI.Rule)),(118,(.st SI.Slab)),(132,(.st SI.ospan)),(228,(.st SI.span)),(230,(.st SI.strip)),(328,(.st SI.side))]
def aff:TypeId->Option (CT xx.ι):=lk agc
theorem lF:dm Tryz.prog (kD tab):=acS (by kernel_rfl)
theorem mixed:Tryz.prog.follows .mixedOrders=true:=Checked.mixed Tryz.checked
theorem cq {f:FuncId} {fn:Func} {l:List (FuncId×Sig xx)} (hΓ:GOk Tryz.prog (gam l)) (hfn:Tryz.prog.funcs[f]? =some fn) {s:Sig xx} (h:Hn SI) (n:Nat)
 (hq : (fn.body.isSome && !(fn.name == "runtime.NumGoroutine") && decide (s.args.length <= fn.ntmps ∧ mW s.args <= 1000 ∧ (s.res.filter RT.out).length = mW s.args)) = true) (hg : s.gen = none)
 (hr:∀ a,run (gam l) (kD tab) aff fn.ntmps n (fn.body.getD .skip) (o9 xx s.res) h (ini s.args a) (af6 (kD tab) fn.results.toList s.res)=s.fn a):COk Tryz.prog f s:=by
 rw[and_eq_true,and_eq_true]at hq;obtain⟨⟨q1,q2⟩,q3⟩:=hq;have hb:fn.body=some (fn.body.getD .skip):=by
  cases hc:fn.body with
  |none=>rw[hc]at q1;cases q1
  |some c=>rfl
 have hn : (fn.name == "runtime.NumGoroutine") = false := by simpa using q2
 exact cok (oM hfn hb hn) (fun a _ e=>af7 lF mixed hΓ hfn hb hn _ _ (of_decide_eq_true q3) h n ((hr a).trans e)) hg
theorem cqG {f:FuncId} {fn:Func} {l:List (FuncId×Sig xx)} (hΓ:GOk Tryz.prog (gam l)) (hfn:Tryz.prog.funcs[f]? =some fn) {g:GSig xx} (h:Hn SI) (n:Nat)
 (hq : (fn.body.isSome && !(fn.name == "runtime.NumGoroutine") && decide (g.inP.length <= fn.ntmps) && g.inOk) = true)
 (hr:∀ v,run (gam l) (kD tab) aff fn.ntmps n (fn.body.getD .skip) (VT (X:=xx) (yu g).vars) h (abP g v) (afc (kD tab) fn.results.toList g)=g.fn v):COk Tryz.prog f ⟨[],[.d .bool],fun _=>none,some g⟩:=by
 rw[and_eq_true,and_eq_true,and_eq_true]at hq;obtain⟨⟨⟨q1,q2⟩,q3⟩,q4⟩:=hq;have hb:fn.body=some (fn.body.getD .skip):=by
  cases hc:fn.body with
  |none=>rw[hc]at q1;cases q1
  |some c=>rfl
 have hn : (fn.name == "runtime.NumGoroutine") = false := by simpa using q2
 exact agz (oM hfn hb hn) (afB lF mixed hΓ hfn hb hn g (of_decide_eq_true q3) q4 h n (fun v _ e=>(hr v).trans e))
theorem gcn:GOk Tryz.prog (gam ([]:List (FuncId×Sig xx))):=aB
abbrev ah:CT SI:=.int .i64
abbrev ak:CT SI:=.st SI.Rect
abbrev cZ:CT SI:=.st SI.Plane
abbrev aH (f:Nat) (s:Sig xx):Prop:=COk Tryz.prog f s
end Go.Proofs
