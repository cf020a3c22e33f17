/-
  Printed by wip/gen: what functions of the program compute, and that they do.
-/
import Derived.Test.YtplkangbgmlgdaaGreatDoorL1
import Derived.Test.YtplkangbgmlgdaaGreatDoorChecked
namespace Go.Proofs
open Go.Gb Go.RowKit
structure qA where
 op:Int
 n:Int
 s:ByteArray
 key:ByteArray
 args:(List qA)
mutual
def Bj:qA->List Tree
 |⟨f0,f1,f2,f3,f4⟩=>[.sc (.int .i64 f0),.sc (.int .i64 f1),.sc (.string f2),.sc (.string f3),.sl (Mk f4)]
def Mk:List qA->List (List Tree)
 |[]=>[]
 |x::xs=>Bj x::Mk xs
end
theorem Ml:∀ l:List qA,Mk l=l.map Bj
 |[]=>rfl
 |x::xs=>by rw[Mk,Ml xs];rfl
theorem Uw (x:qA):Bj x=[.sc (.int .i64 x.op),.sc (.int .i64 x.n),.sc (.string x.s),.sc (.string x.key),.sl (x.args.map Bj)]:=by cases x;simp only[Bj,Ml]
structure ajA where
 name:ByteArray
 body_op:Int
 body_n:Int
 body_s:ByteArray
 body_key:ByteArray
 body_args:(List qA)
def aeF (x:ajA):List Tree:=[.sc (.string x.name),.sc (.int .i64 x.body_op),.sc (.int .i64 x.body_n),.sc (.string x.body_s),.sc (.string x.body_key),.sl (x.body_args.map Bj)]
structure Zw where
 name:ByteArray
 n:Int
 deriving DecidableEq,Inhabited
def Ux (x:Zw):List Tree:=[.sc (.string x.name),.sc (.int .i64 x.n)]
structure Zx where
 name:ByteArray
 rows:(List Zw)
 else_:Int
 deriving DecidableEq,Inhabited
def Uy (x:Zx):List Tree:=[.sc (.string x.name),.sl (x.rows.map Ux),.sc (.int .i64 x.else_)]
structure bS where
 x:Int
 y:Int
 deriving DecidableEq,Inhabited
def Uz (x:bS):List Tree:=[.sc (.int .i64 x.x),.sc (.int .i64 x.y)]
structure l8 where
 name:ByteArray
 overlay:Bool
 corners:(List bS)
 deriving DecidableEq,Inhabited
def Zy (x:l8):List Tree:=[.sc (.string x.name),.sc (.bool x.overlay),.sl (x.corners.map Uz)]
structure eD where
 name:ByteArray
 zones:(List ByteArray)
 except:(List ByteArray)
 from_:Int
 until_:Int
 grace:Int
 vary:Bool
 kind:Int
 test_op:Int
 test_n:Int
 test_s:ByteArray
 test_key:ByteArray
 test_args:(List qA)
 plane_side:Int
 plane_base:Int
 plane_num:Int
 plane_den:Int
 uses:Int
 other:Int
 n:Int
def Zz (x:eD):List Tree:=[.sc (.string x.name),.sl (x.zones.map (fun y=>[.sc (.string y)])),.sl (x.except.map (fun y=>[.sc (.string y)])),.sc (.int .i64 x.from_),.sc (.int .i64 x.until_),.sc (.int .i64 x.grace),.sc (.bool x.vary),.sc (.int .i64 x.kind),.sc (.int .i64 x.test_op),.sc (.int .i64 x.test_n),.sc (.string x.test_s),.sc (.string x.test_key),.sl (x.test_args.map Bj),.sc (.int .i64 x.plane_side),.sc (.int .i64 x.plane_base),.sc (.int .i64 x.plane_num),.sc (.int .i64 x.plane_den),.sc (.int .i64 x.uses),.sc (.int .i64 x.other),.sc (.int .i64 x.n)]
structure ajB where
 name:ByteArray
 load:Int
 limit:Int
 corners:(List bS)
 deriving DecidableEq,Inhabited
def aeG (x:ajB):List Tree:=[.sc (.string x.name),.sc (.int .i64 x.load),.sc (.int .i64 x.limit),.sl (x.corners.map Uz)]
structure Mq where
 x:Int
 y:Int
 z:Int
 deriving DecidableEq,Inhabited
def Jd (x:Mq):List Tree:=[.sc (.int .i64 x.x),.sc (.int .i64 x.y),.sc (.int .i64 x.z)]
structure agr where
 name:ByteArray
 eye_x:Int
 eye_y:Int
 eye_z:Int
 least:Int
 targets:(List Mq)
 deriving DecidableEq,Inhabited
def ZA (x:agr):List Tree:=[.sc (.string x.name),.sc (.int .i64 x.eye_x),.sc (.int .i64 x.eye_y),.sc (.int .i64 x.eye_z),.sc (.int .i64 x.least),.sl (x.targets.map Jd)]
structure aj where
 x0:Int
 y0:Int
 x1:Int
 y1:Int
 deriving DecidableEq,Inhabited
def kg (x:aj):List Tree:=[.sc (.int .i64 x.x0),.sc (.int .i64 x.y0),.sc (.int .i64 x.x1),.sc (.int .i64 x.y1)]
structure l5 where
 id:Int
 owner:Int
 area:(List aj)
 from_:(List Int)
 deriving DecidableEq,Inhabited
def aeH (x:l5):List Tree:=[.sc (.int .i64 x.id),.sc (.int .i64 x.owner),.sl (x.area.map kg),.sl (x.from_.map (fun y=>[.sc (.int .i64 y)]))]
structure bV where
 lot:Int
 area:(List aj)
 top:Int
 deriving DecidableEq,Inhabited
def QK (x:bV):List Tree:=[.sc (.int .i64 x.lot),.sl (x.area.map kg),.sc (.int .i64 x.top)]
structure ZB where
 lot:Int
 at_x:Int
 at_y:Int
 at_z:Int
 deriving DecidableEq,Inhabited
def X9 (x:ZB):List Tree:=[.sc (.int .i64 x.lot),.sc (.int .i64 x.at_x),.sc (.int .i64 x.at_y),.sc (.int .i64 x.at_z)]
structure ZC where
 lot:Int
 volume_box_base_x0:Int
 volume_box_base_y0:Int
 volume_box_base_x1:Int
 volume_box_base_y1:Int
 volume_box_z0:Int
 volume_box_z1:Int
 volume_use:Int
 volume_units:Int
 volume_extra:Bool
 deriving DecidableEq,Inhabited
def Ya (x:ZC):List Tree:=[.sc (.int .i64 x.lot),.sc (.int .i64 x.volume_box_base_x0),.sc (.int .i64 x.volume_box_base_y0),.sc (.int .i64 x.volume_box_base_x1),.sc (.int .i64 x.volume_box_base_y1),.sc (.int .i64 x.volume_box_z0),.sc (.int .i64 x.volume_box_z1),.sc (.int .i64 x.volume_use),.sc (.int .i64 x.volume_units),.sc (.bool x.volume_extra)]
structure dY where
 plan_defs:(List ajA)
 plan_tables:(List Zx)
 plan_zones:(List l8)
 plan_rules:(List eD)
 plan_caps:(List ajB)
 plan_views:(List agr)
 plan_sun:(List Mq)
 plan_hours:Int
 land:(List l5)
 easements:(List bV)
 windows:(List ZB)
 built:(List ZC)
 base:(List Zw)
def ajC (x:dY):List Tree:=[.sl (x.plan_defs.map aeF),.sl (x.plan_tables.map Uy),.sl (x.plan_zones.map Zy),.sl (x.plan_rules.map Zz),.sl (x.plan_caps.map aeG),.sl (x.plan_views.map ZA),.sl (x.plan_sun.map Jd),.sc (.int .i64 x.plan_hours),.sl (x.land.map aeH),.sl (x.easements.map QK),.sl (x.windows.map X9),.sl (x.built.map Ya),.sl (x.base.map Ux)]
structure aL where
 from_:Int
 to:Int
 deriving DecidableEq,Inhabited
def ags (x:aL):List Tree:=[.sc (.int .i64 x.from_),.sc (.int .i64 x.to)]
structure bg where
 x0:Int
 x1:Int
 column:(List aL)
 deriving DecidableEq,Inhabited
def aiw (x:bg):List Tree:=[.sc (.int .i64 x.x0),.sc (.int .i64 x.x1),.sl (x.column.map ags)]
structure jb where
 a_x:Int
 a_y:Int
 b_x:Int
 b_y:Int
 deriving DecidableEq,Inhabited
def ajD (x:jb):List Tree:=[.sc (.int .i64 x.a_x),.sc (.int .i64 x.a_y),.sc (.int .i64 x.b_x),.sc (.int .i64 x.b_y)]
structure lg where
 defs:(List ajA)
 tables:(List Zx)
 zones:(List l8)
 rules:(List eD)
 caps:(List ajB)
 views:(List agr)
 sun:(List Mq)
 hours:Int
def ajE (x:lg):List Tree:=[.sl (x.defs.map aeF),.sl (x.tables.map Uy),.sl (x.zones.map Zy),.sl (x.rules.map Zz),.sl (x.caps.map aeG),.sl (x.views.map ZA),.sl (x.sun.map Jd),.sc (.int .i64 x.hours)]
structure bK where
 from_:Int
 to:Int
 deriving DecidableEq,Inhabited
def Dh (x:bK):List Tree:=[.sc (.int .i64 x.from_),.sc (.int .i64 x.to)]
structure bZ where
 x0:Int
 x1:Int
 column:(List bK)
 deriving DecidableEq,Inhabited
def Mr (x:bZ):List Tree:=[.sc (.int .i64 x.x0),.sc (.int .i64 x.x1),.sl (x.column.map Dh)]
structure bR where
 side:Int
 base:Int
 num:Int
 den:Int
 deriving DecidableEq,Inhabited
def aix (x:bR):List Tree:=[.sc (.int .i64 x.side),.sc (.int .i64 x.base),.sc (.int .i64 x.num),.sc (.int .i64 x.den)]
structure dw where
 z0:Int
 z1:Int
 area:(List aj)
 deriving DecidableEq,Inhabited
def ajF (x:dw):List Tree:=[.sc (.int .i64 x.z0),.sc (.int .i64 x.z1),.sl (x.area.map kg)]
inductive SI where
 |Expr
 |Def
 |Entry
 |Table
 |Point
 |Zone
 |Rule
 |Cap
 |Point3
 |View
 |Rect
 |Lot
 |Easement
 |Window
 |Placed
 |Town
 |span
 |strip
 |side
 |Plan
 |ospan
 |slab
 |Plane
 |Slab
 deriving DecidableEq
@[reducible] def TT:SI->Type
 | .Expr=>qA
 | .Def=>ajA
 | .Entry=>Zw
 | .Table=>Zx
 | .Point=>bS
 | .Zone=>l8
 | .Rule=>eD
 | .Cap=>ajB
 | .Point3=>Mq
 | .View=>agr
 | .Rect=>aj
 | .Lot=>l5
 | .Easement=>bV
 | .Window=>ZB
 | .Placed=>ZC
 | .Town=>dY
 | .span=>aL
 | .strip=>bg
 | .side=>jb
 | .Plan=>lg
 | .ospan=>bK
 | .slab=>bZ
 | .Plane=>bR
 | .Slab=>dw
def aly:(i:SI)->TT i->List Tree
 | .Expr,x=>Bj x
 | .Def,x=>aeF x
 | .Entry,x=>Ux x
 | .Table,x=>Uy x
 | .Point,x=>Uz x
 | .Zone,x=>Zy x
 | .Rule,x=>Zz x
 | .Cap,x=>aeG x
 | .Point3,x=>Jd x
 | .View,x=>ZA x
 | .Rect,x=>kg x
 | .Lot,x=>aeH x
 | .Easement,x=>QK x
 | .Window,x=>X9 x
 | .Placed,x=>Ya x
 | .Town,x=>ajC x
 | .span,x=>ags x
 | .strip,x=>aiw x
 | .side,x=>ajD x
 | .Plan,x=>ajE x
 | .ospan,x=>Dh x
 | .slab,x=>Mr x
 | .Plane,x=>aix x
 | .Slab,x=>ajF x
def se:SE:=⟨SI,inferInstance,TT,aly⟩
def aky:SI->List (CT SI)
 | .Expr=>[(.int .i64),(.int .i64),.str,.str,(.sl (.st SI.Expr))]
 | .Def=>[.str,(.int .i64),(.int .i64),.str,.str,(.sl (.st SI.Expr))]
 | .Entry=>[.str,(.int .i64)]
 | .Table=>[.str,(.sl (.st SI.Entry)),(.int .i64)]
 | .Point=>[(.int .i64),(.int .i64)]
 | .Zone=>[.str,.bool,(.sl (.st SI.Point))]
 | .Rule=>[.str,(.sl .str),(.sl .str),(.int .i64),(.int .i64),(.int .i64),.bool,(.int .i64),(.int .i64),(.int .i64),.str,.str,(.sl (.st SI.Expr)),(.int .i64),(.int .i64),(.int .i64),(.int .i64),(.int .i64),(.int .i64),(.int .i64)]
 | .Cap=>[.str,(.int .i64),(.int .i64),(.sl (.st SI.Point))]
 | .Point3=>[(.int .i64),(.int .i64),(.int .i64)]
 | .View=>[.str,(.int .i64),(.int .i64),(.int .i64),(.int .i64),(.sl (.st SI.Point3))]
 | .Rect=>[(.int .i64),(.int .i64),(.int .i64),(.int .i64)]
 | .Lot=>[(.int .i64),(.int .i64),(.sl (.st SI.Rect)),(.sl (.int .i64))]
 | .Easement=>[(.int .i64),(.sl (.st SI.Rect)),(.int .i64)]
 | .Window=>[(.int .i64),(.int .i64),(.int .i64),(.int .i64)]
 | .Placed=>[(.int .i64),(.int .i64),(.int .i64),(.int .i64),(.int .i64),(.int .i64),(.int .i64),(.int .i64),(.int .i64),.bool]
 | .Town=>[(.sl (.st SI.Def)),(.sl (.st SI.Table)),(.sl (.st SI.Zone)),(.sl (.st SI.Rule)),(.sl (.st SI.Cap)),(.sl (.st SI.View)),(.sl (.st SI.Point3)),(.int .i64),(.sl (.st SI.Lot)),(.sl (.st SI.Easement)),(.sl (.st SI.Window)),(.sl (.st SI.Placed)),(.sl (.st SI.Entry))]
 | .span=>[(.int .i64),(.int .i64)]
 | .strip=>[(.int .i64),(.int .i64),(.sl (.st SI.span))]
 | .side=>[(.int .i64),(.int .i64),(.int .i64),(.int .i64)]
 | .Plan=>[(.sl (.st SI.Def)),(.sl (.st SI.Table)),(.sl (.st SI.Zone)),(.sl (.st SI.Rule)),(.sl (.st SI.Cap)),(.sl (.st SI.View)),(.sl (.st SI.Point3)),(.int .i64)]
 | .ospan=>[(.int .i64),(.int .i64)]
 | .slab=>[(.int .i64),(.int .i64),(.sl (.st SI.ospan))]
 | .Plane=>[(.int .i64),(.int .i64),(.int .i64),(.int .i64)]
 | .Slab=>[(.int .i64),(.int .i64),(.sl (.st SI.Rect))]
def alz:(i:SI)->TT i->HL se (aky i)
 | .Expr,x=>(x.op,x.n,x.s,x.key,x.args,())
 | .Def,x=>(x.name,x.body_op,x.body_n,x.body_s,x.body_key,x.body_args,())
 | .Entry,x=>(x.name,x.n,())
 | .Table,x=>(x.name,x.rows,x.else_,())
 | .Point,x=>(x.x,x.y,())
 | .Zone,x=>(x.name,x.overlay,x.corners,())
 | .Rule,x=>(x.name,x.zones,x.except,x.from_,x.until_,x.grace,x.vary,x.kind,x.test_op,x.test_n,x.test_s,x.test_key,x.test_args,x.plane_side,x.plane_base,x.plane_num,x.plane_den,x.uses,x.other,x.n,())
 | .Cap,x=>(x.name,x.load,x.limit,x.corners,())
 | .Point3,x=>(x.x,x.y,x.z,())
 | .View,x=>(x.name,x.eye_x,x.eye_y,x.eye_z,x.least,x.targets,())
 | .Rect,x=>(x.x0,x.y0,x.x1,x.y1,())
 | .Lot,x=>(x.id,x.owner,x.area,x.from_,())
 | .Easement,x=>(x.lot,x.area,x.top,())
 | .Window,x=>(x.lot,x.at_x,x.at_y,x.at_z,())
 | .Placed,x=>(x.lot,x.volume_box_base_x0,x.volume_box_base_y0,x.volume_box_base_x1,x.volume_box_base_y1,x.volume_box_z0,x.volume_box_z1,x.volume_use,x.volume_units,x.volume_extra,())
 | .Town,x=>(x.plan_defs,x.plan_tables,x.plan_zones,x.plan_rules,x.plan_caps,x.plan_views,x.plan_sun,x.plan_hours,x.land,x.easements,x.windows,x.built,x.base,())
 | .span,x=>(x.from_,x.to,())
 | .strip,x=>(x.x0,x.x1,x.column,())
 | .side,x=>(x.a_x,x.a_y,x.b_x,x.b_y,())
 | .Plan,x=>(x.defs,x.tables,x.zones,x.rules,x.caps,x.views,x.sun,x.hours,())
 | .ospan,x=>(x.from_,x.to,())
 | .slab,x=>(x.x0,x.x1,x.column,())
 | .Plane,x=>(x.side,x.base,x.num,x.den,())
 | .Slab,x=>(x.z0,x.z1,x.area,())
def ak2:(i:SI)->HL se (aky i)->TT i
 | .Expr,h=>⟨h.1,h.2.1,h.2.2.1,h.2.2.2.1,h.2.2.2.2.1⟩
 | .Def,h=>⟨h.1,h.2.1,h.2.2.1,h.2.2.2.1,h.2.2.2.2.1,h.2.2.2.2.2.1⟩
 | .Entry,h=>⟨h.1,h.2.1⟩
 | .Table,h=>⟨h.1,h.2.1,h.2.2.1⟩
 | .Point,h=>⟨h.1,h.2.1⟩
 | .Zone,h=>⟨h.1,h.2.1,h.2.2.1⟩
 | .Rule,h=>⟨h.1,h.2.1,h.2.2.1,h.2.2.2.1,h.2.2.2.2.1,h.2.2.2.2.2.1,h.2.2.2.2.2.2.1,h.2.2.2.2.2.2.2.1,h.2.2.2.2.2.2.2.2.1,h.2.2.2.2.2.2.2.2.2.1,h.2.2.2.2.2.2.2.2.2.2.1,h.2.2.2.2.2.2.2.2.2.2.2.1,h.2.2.2.2.2.2.2.2.2.2.2.2.1,h.2.2.2.2.2.2.2.2.2.2.2.2.2.1,h.2.2.2.2.2.2.2.2.2.2.2.2.2.2.1,h.2.2.2.2.2.2.2.2.2.2.2.2.2.2.2.1,h.2.2.2.2.2.2.2.2.2.2.2.2.2.2.2.2.1,h.2.2.2.2.2.2.2.2.2.2.2.2.2.2.2.2.2.1,h.2.2.2.2.2.2.2.2.2.2.2.2.2.2.2.2.2.2.1,h.2.2.2.2.2.2.2.2.2.2.2.2.2.2.2.2.2.2.2.1⟩
 | .Cap,h=>⟨h.1,h.2.1,h.2.2.1,h.2.2.2.1⟩
 | .Point3,h=>⟨h.1,h.2.1,h.2.2.1⟩
 | .View,h=>⟨h.1,h.2.1,h.2.2.1,h.2.2.2.1,h.2.2.2.2.1,h.2.2.2.2.2.1⟩
 | .Rect,h=>⟨h.1,h.2.1,h.2.2.1,h.2.2.2.1⟩
 | .Lot,h=>⟨h.1,h.2.1,h.2.2.1,h.2.2.2.1⟩
 | .Easement,h=>⟨h.1,h.2.1,h.2.2.1⟩
 | .Window,h=>⟨h.1,h.2.1,h.2.2.1,h.2.2.2.1⟩
 | .Placed,h=>⟨h.1,h.2.1,h.2.2.1,h.2.2.2.1,h.2.2.2.2.1,h.2.2.2.2.2.1,h.2.2.2.2.2.2.1,h.2.2.2.2.2.2.2.1,h.2.2.2.2.2.2.2.2.1,h.2.2.2.2.2.2.2.2.2.1⟩
 | .Town,h=>⟨h.1,h.2.1,h.2.2.1,h.2.2.2.1,h.2.2.2.2.1,h.2.2.2.2.2.1,h.2.2.2.2.2.2.1,h.2.2.2.2.2.2.2.1,h.2.2.2.2.2.2.2.2.1,h.2.2.2.2.2.2.2.2.2.1,h.2.2.2.2.2.2.2.2.2.2.1,h.2.2.2.2.2.2.2.2.2.2.2.1,h.2.2.2.2.2.2.2.2.2.2.2.2.1⟩
 | .span,h=>⟨h.1,h.2.1⟩
 | .strip,h=>⟨h.1,h.2.1,h.2.2.1⟩
 | .side,h=>⟨h.1,h.2.1,h.2.2.1,h.2.2.2.1⟩
 | .Plan,h=>⟨h.1,h.2.1,h.2.2.1,h.2.2.2.1,h.2.2.2.2.1,h.2.2.2.2.2.1,h.2.2.2.2.2.2.1,h.2.2.2.2.2.2.2.1⟩
 | .ospan,h=>⟨h.1,h.2.1⟩
 | .slab,h=>⟨h.1,h.2.1,h.2.2.1⟩
 | .Plane,h=>⟨h.1,h.2.1,h.2.2.1,h.2.2.2.1⟩
 | .Slab,h=>⟨h.1,h.2.1,h.2.2.1⟩
def gv0:aj:=⟨0,0,1048576,1048576⟩
def gvS:Nat->Option ((c:CT SI)×CT.T se c)
 | 0=>some ⟨(.st SI.Rect),gv0⟩
 |_=>none
def xx:SX:={ toSE:=se,tys:=aky,get:=alz,make:=ak2,row_get:=by intro i x;cases i<;>first |rfl |exact Uw _,row_make:=by intro i h;cases i<;>first |rfl |exact Uw _,flat:=by intro i;cases i<;>rfl,gv:=gvS,gv_ok:=by intro g;match g with | 0=>rfl |_+1=>rfl }
def tab:List (TypeId×TyI):=[
 (3,⟨1,8,false,[.int .i64 0],.int .i64,[]⟩),
 (4,⟨1,1,false,[.bool false],.bool,[]⟩),
 (5,⟨1,1,false,[.int .u8 0],.int .u8,[]⟩),
 (9,⟨1,16,false,[.string ⟨#[]⟩],.str,[]⟩),
 (22,⟨1,24,false,[.slice none 0 0],.slice 238,[]⟩),
 (23,⟨1,24,false,[.slice none 0 0],.slice 240,[]⟩),
 (24,⟨1,24,false,[.slice none 0 0],.slice 138,[]⟩),
 (25,⟨1,24,false,[.slice none 0 0],.slice 66,[]⟩),
 (26,⟨1,24,false,[.slice none 0 0],.slice 242,[]⟩),
 (27,⟨1,24,false,[.slice none 0 0],.slice 246,[]⟩),
 (28,⟨1,24,false,[.slice none 0 0],.slice 244,[]⟩),
 (30,⟨8,176,true,[.slice none 0 0,.slice none 0 0,.slice none 0 0,.slice none 0 0,.slice none 0 0,.slice none 0 0,.slice none 0 0,.int .i64 0],.struct [(0,22),(1,23),(2,24),(3,25),(4,26),(5,27),(6,28),(7,3)],[]⟩),
 (31,⟨1,24,false,[.slice none 0 0],.slice 69,[]⟩),
 (32,⟨1,24,false,[.slice none 0 0],.slice 71,[]⟩),
 (33,⟨1,24,false,[.slice none 0 0],.slice 248,[]⟩),
 (34,⟨1,24,false,[.slice none 0 0],.slice 254,[]⟩),
 (35,⟨1,24,false,[.slice none 0 0],.slice 256,[]⟩),
 (37,⟨13,296,true,[.slice none 0 0,.slice none 0 0,.slice none 0 0,.slice none 0 0,.slice none 0 0,.slice none 0 0,.slice none 0 0,.int .i64 0,.slice none 0 0,.slice none 0 0,.slice none 0 0,.slice none 0 0,.slice none 0 0],.struct [(0,30),(8,31),(9,32),(10,33),(11,34),(12,35)],[]⟩),
 (38,⟨1,24,false,[.slice none 0 0],.slice 59,[]⟩),
 (47,⟨1,24,false,[.slice none 0 0],.slice 50,[]⟩),
 (50,⟨4,32,true,[.int .i64 0,.int .i64 0,.int .i64 0,.int .i64 0],.struct [(0,3),(1,3),(2,3),(3,3)],[0,0,0,0]⟩),
 (51,⟨1,24,false,[.slice none 0 0],.slice 89,[]⟩),
 (58,⟨4,32,true,[.int .i64 0,.int .i64 0,.int .i64 0,.int .i64 0],.struct [(0,3),(1,3),(2,3),(3,3)],[0,0,0,0]⟩),
 (59,⟨1,24,false,[.slice none 0 0],.slice 58,[]⟩),
 (61,⟨1,24,false,[.slice none 0 0],.slice 9,[]⟩),
 (62,⟨1,24,false,[.slice none 0 0],.slice 64,[]⟩),
 (64,⟨5,72,true,[.int .i64 0,.int .i64 0,.string ⟨#[]⟩,.string ⟨#[]⟩,.slice none 0 0],.struct [(0,3),(1,3),(2,9),(3,9),(4,62)],[]⟩),
 (66,⟨20,232,true,[.string ⟨#[]⟩,.slice none 0 0,.slice none 0 0,.int .i64 0,.int .i64 0,.int .i64 0,.bool false,.int .i64 0,.int .i64 0,.int .i64 0,.string ⟨#[]⟩,.string ⟨#[]⟩,.slice none 0 0,.int .i64 0,.int .i64 0,.int .i64 0,.int .i64 0,.int .i64 0,.int .i64 0,.int .i64 0],.struct [(0,9),(1,61),(2,61),(3,3),(4,3),(5,3),(6,4),(7,3),(8,64),(13,50),(17,3),(18,3),(19,3)],[]⟩),
 (67,⟨1,24,false,[.slice none 0 0],.slice 3,[]⟩),
 (69,⟨4,64,true,[.int .i64 0,.int .i64 0,.slice none 0 0,.slice none 0 0],.struct [(0,3),(1,3),(2,59),(3,67)],[]⟩),
 (71,⟨3,40,true,[.int .i64 0,.slice none 0 0,.int .i64 0],.struct [(0,3),(1,59),(2,3)],[]⟩),
 (89,⟨3,40,true,[.int .i64 0,.int .i64 0,.slice none 0 0],.struct [(0,3),(1,3),(2,59)],[]⟩),
 (94,⟨1,24,false,[.slice none 0 0],.slice 98,[]⟩),
 (96,⟨1,24,false,[.slice none 0 0],.slice 104,[]⟩),
 (98,⟨3,40,true,[.int .i64 0,.int .i64 0,.slice none 0 0],.struct [(0,3),(1,3),(2,96)],[]⟩),
 (104,⟨2,16,true,[.int .i64 0,.int .i64 0],.struct [(0,3),(1,3)],[0,0]⟩),
 (119,⟨1,24,false,[.slice none 0 0],.slice 145,[]⟩),
 (124,⟨1,8,false,[.int .u64 0],.int .u64,[]⟩),
 (136,⟨1,24,false,[.slice none 0 0],.slice 167,[]⟩),
 (138,⟨3,48,true,[.string ⟨#[]⟩,.bool false,.slice none 0 0],.struct [(0,9),(1,4),(2,136)],[]⟩),
 (141,⟨1,24,false,[.slice none 0 0],.slice 143,[]⟩),
 (143,⟨2,16,true,[.int .i64 0,.int .i64 0],.struct [(0,3),(1,3)],[0,0]⟩),
 (145,⟨3,40,true,[.int .i64 0,.int .i64 0,.slice none 0 0],.struct [(0,3),(1,3),(2,141)],[]⟩),
 (157,⟨1,4,false,[.int .u32 0],.int .u32,[]⟩),
 (159,⟨1,8,false,[.int .u64 0],.int .u64,[]⟩),
 (167,⟨2,16,true,[.int .i64 0,.int .i64 0],.struct [(0,3),(1,3)],[0,0]⟩),
 (176,⟨1,8,false,[.int .u64 0],.int .u64,[]⟩),
 (201,⟨1,24,false,[.slice none 0 0],.slice 204,[]⟩),
 (204,⟨4,32,true,[.int .i64 0,.int .i64 0,.int .i64 0,.int .i64 0],.struct [(0,167),(2,167)],[]⟩),
 (238,⟨6,88,true,[.string ⟨#[]⟩,.int .i64 0,.int .i64 0,.string ⟨#[]⟩,.string ⟨#[]⟩,.slice none 0 0],.struct [(0,9),(1,64)],[]⟩),
 (240,⟨3,48,true,[.string ⟨#[]⟩,.slice none 0 0,.int .i64 0],.struct [(0,9),(1,35),(2,3)],[]⟩),
 (242,⟨4,56,true,[.string ⟨#[]⟩,.int .i64 0,.int .i64 0,.slice none 0 0],.struct [(0,9),(1,3),(2,3),(3,136)],[]⟩),
 (244,⟨3,24,true,[.int .i64 0,.int .i64 0,.int .i64 0],.struct [(0,3),(1,3),(2,3)],[0,0,0]⟩),
 (246,⟨6,72,true,[.string ⟨#[]⟩,.int .i64 0,.int .i64 0,.int .i64 0,.int .i64 0,.slice none 0 0],.struct [(0,9),(1,244),(4,3),(5,28)],[]⟩),
 (248,⟨4,32,true,[.int .i64 0,.int .i64 0,.int .i64 0,.int .i64 0],.struct [(0,3),(1,244)],[]⟩),
 (250,⟨6,48,true,[.int .i64 0,.int .i64 0,.int .i64 0,.int .i64 0,.int .i64 0,.int .i64 0],.struct [(0,58),(4,3),(5,3)],[]⟩),
 (252,⟨9,72,true,[.int .i64 0,.int .i64 0,.int .i64 0,.int .i64 0,.int .i64 0,.int .i64 0,.int .i64 0,.int .i64 0,.bool false],.struct [(0,250),(6,3),(7,3),(8,4)],[]⟩),
 (254,⟨10,80,true,[.int .i64 0,.int .i64 0,.int .i64 0,.int .i64 0,.int .i64 0,.int .i64 0,.int .i64 0,.int .i64 0,.int .i64 0,.bool false],.struct [(0,3),(1,252)],[]⟩),
 (256,⟨2,24,true,[.string ⟨#[]⟩,.int .i64 0],.struct [(0,9),(1,3)],[2,0]⟩)]
def ak3:List (TypeId×CT SI):=[(3,(.int .i64)),(9,.str),(50,(.st SI.Plane)),(58,(.st SI.Rect)),(59,(.sl (.st SI.Rect))),(64,(.st SI.Expr)),(66,(.st SI.Rule)),(69,(.st SI.Lot)),(71,(.st SI.Easement)),(89,(.st SI.Slab)),(104,(.st SI.ospan)),(143,(.st SI.span)),(145,(.st SI.strip)),(204,(.st SI.side))]
def ak4:TypeId->Option (CT xx.ι):=lk ak3
theorem pY:gm Tryz.prog (oz tab):=ahX (by kernel_rfl)
theorem mixed:Tryz.prog.follows .mixedOrders=true:=Checked.mixed Tryz.checked
theorem cq {f:FuncId} {fn:Func} {l:List (FuncId×Sig xx)} (hΓ:GOk Tryz.prog (gam l)) (hfn:Tryz.prog.funcs[f]? =some fn) {s:Sig xx} (h:Hn SI) (n:Nat)
 (hq : (fn.body.isSome && !(fn.name == "runtime.NumGoroutine") && decide (s.args.length <= fn.ntmps ∧ qg s.args <= 1000 ∧ (s.res.filter RT.out).length = qg s.args)) = true := by kernel_rfl) (hg : s.gen = none := by rfl)
 (hr:∀ a,run (gam l) (oz tab) ak4 fn.ntmps n (fn.body.getD .skip) (su xx s.res) h (ini s.args a) (akY (oz tab) fn.results.toList s.res)=s.fn a:=by intro _;kernel_rfl):COk Tryz.prog f s:=by
 rw[aK,aK]at hq;obtain⟨⟨q1,q2⟩,q3⟩:=hq;have hb:fn.body=some (fn.body.getD .skip):=by
  cases hc:fn.body with
  |none=>rw[hc]at q1;cases q1
  |some c=>rfl
 have hn : (fn.name == "runtime.NumGoroutine") = false := by simpa using q2
 exact cok (wK hfn hb hn) (fun a _ e=>akZ pY mixed hΓ hfn hb hn _ _ (of_decide_eq_true q3) h n ((hr a).trans e)) hg
theorem gcn:GOk Tryz.prog (gam ([]:List (FuncId×Sig xx))):=aH
abbrev af:CT SI:=.int .i64
abbrev fC:CT SI:=.st SI.Point
abbrev ay:CT SI:=.st SI.Rect
abbrev dO:CT SI:=.st SI.Plane
abbrev aS (f:Nat) (s:Sig xx):Prop:=COk Tryz.prog f s
end Go.Proofs
