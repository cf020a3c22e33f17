/-
  Printed by wip/gen: what functions of the program compute, and that they do.
-/
import Derived.Test.YtidlnbgnaeaghaaGreatL1
import Derived.Test.YtidlnbgnaeaghaaGreatChecked
open Bool (and_eq_true)
namespace Go.Proofs
open Go.Gb Go.RowKit
structure GRect where
 x0:Int
 y0:Int
 x1:Int
 y1:Int
 deriving DecidableEq,Inhabited
def rowRect (x:GRect):List Tree:=[.sc (.int .i64 x.x0),.sc (.int .i64 x.y0),.sc (.int .i64 x.x1),.sc (.int .i64 x.y1)]
structure GDef where
 name:ByteArray
 body_op:Int
 body_n:Int
 body_s:ByteArray
 body_key:ByteArray
 body_args:Tree
def rowDef (x:GDef):List Tree:=[.sc (.string x.name),.sc (.int .i64 x.body_op),.sc (.int .i64 x.body_n),.sc (.string x.body_s),.sc (.string x.body_key),x.body_args]
structure GEntry where
 name:ByteArray
 n:Int
 deriving DecidableEq,Inhabited
def rowEntry (x:GEntry):List Tree:=[.sc (.string x.name),.sc (.int .i64 x.n)]
structure GTable where
 name:ByteArray
 rows:(List GEntry)
 else_:Int
 deriving DecidableEq,Inhabited
def rowTable (x:GTable):List Tree:=[.sc (.string x.name),.sl (x.rows.map rowEntry),.sc (.int .i64 x.else_)]
structure GPoint where
 x:Int
 y:Int
 deriving DecidableEq,Inhabited
def rowPoint (x:GPoint):List Tree:=[.sc (.int .i64 x.x),.sc (.int .i64 x.y)]
structure GZone where
 name:ByteArray
 overlay:Bool
 corners:(List GPoint)
 deriving DecidableEq,Inhabited
def rowZone (x:GZone):List Tree:=[.sc (.string x.name),.sc (.bool x.overlay),.sl (x.corners.map rowPoint)]
structure GRule where
 name:ByteArray
 zones:(List ByteArray)
 except:(List ByteArray)
 from_:Int
 until_:Int
 grace:Int
 vary:Bool
 kind:Int
 test_op:Int
 test_n:Int
 test_s:ByteArray
 test_key:ByteArray
 test_args:Tree
 plane_side:Int
 plane_base:Int
 plane_num:Int
 plane_den:Int
 uses:Int
 other:Int
 n:Int
def rowRule (x:GRule):List Tree:=[.sc (.string x.name),.sl (x.zones.map (fun y=>[.sc (.string y)])),.sl (x.except.map (fun y=>[.sc (.string y)])),.sc (.int .i64 x.from_),.sc (.int .i64 x.until_),.sc (.int .i64 x.grace),.sc (.bool x.vary),.sc (.int .i64 x.kind),.sc (.int .i64 x.test_op),.sc (.int .i64 x.test_n),.sc (.string x.test_s),.sc (.string x.test_key),x.test_args,.sc (.int .i64 x.plane_side),.sc (.int .i64 x.plane_base),.sc (.int .i64 x.plane_num),.sc (.int .i64 x.plane_den),.sc (.int .i64 x.uses),.sc (.int .i64 x.other),.sc (.int .i64 x.n)]
structure GCap where
 name:ByteArray
 load:Int
 limit:Int
 corners:(List GPoint)
 deriving DecidableEq,Inhabited
def rowCap (x:GCap):List Tree:=[.sc (.string x.name),.sc (.int .i64 x.load),.sc (.int .i64 x.limit),.sl (x.corners.map rowPoint)]
structure GPoint3 where
 x:Int
 y:Int
 z:Int
 deriving DecidableEq,Inhabited
def rowPoint3 (x:GPoint3):List Tree:=[.sc (.int .i64 x.x),.sc (.int .i64 x.y),.sc (.int .i64 x.z)]
structure GView where
 name:ByteArray
 eye_x:Int
 eye_y:Int
 eye_z:Int
 least:Int
 targets:(List GPoint3)
 deriving DecidableEq,Inhabited
def rowView (x:GView):List Tree:=[.sc (.string x.name),.sc (.int .i64 x.eye_x),.sc (.int .i64 x.eye_y),.sc (.int .i64 x.eye_z),.sc (.int .i64 x.least),.sl (x.targets.map rowPoint3)]
structure GLot where
 id:Int
 owner:Int
 area:(List GRect)
 from_:(List Int)
 deriving DecidableEq,Inhabited
def rowLot (x:GLot):List Tree:=[.sc (.int .i64 x.id),.sc (.int .i64 x.owner),.sl (x.area.map rowRect),.sl (x.from_.map (fun y=>[.sc (.int .i64 y)]))]
structure GEasement where
 lot:Int
 area:(List GRect)
 top:Int
 deriving DecidableEq,Inhabited
def rowEasement (x:GEasement):List Tree:=[.sc (.int .i64 x.lot),.sl (x.area.map rowRect),.sc (.int .i64 x.top)]
structure GWindow where
 lot:Int
 at_x:Int
 at_y:Int
 at_z:Int
 deriving DecidableEq,Inhabited
def rowWindow (x:GWindow):List Tree:=[.sc (.int .i64 x.lot),.sc (.int .i64 x.at_x),.sc (.int .i64 x.at_y),.sc (.int .i64 x.at_z)]
structure GPlaced where
 lot:Int
 volume_box_base_x0:Int
 volume_box_base_y0:Int
 volume_box_base_x1:Int
 volume_box_base_y1:Int
 volume_box_z0:Int
 volume_box_z1:Int
 volume_use:Int
 volume_units:Int
 volume_extra:Bool
 deriving DecidableEq,Inhabited
def rowPlaced (x:GPlaced):List Tree:=[.sc (.int .i64 x.lot),.sc (.int .i64 x.volume_box_base_x0),.sc (.int .i64 x.volume_box_base_y0),.sc (.int .i64 x.volume_box_base_x1),.sc (.int .i64 x.volume_box_base_y1),.sc (.int .i64 x.volume_box_z0),.sc (.int .i64 x.volume_box_z1),.sc (.int .i64 x.volume_use),.sc (.int .i64 x.volume_units),.sc (.bool x.volume_extra)]
structure GTown where
 plan_defs:(List GDef)
 plan_tables:(List GTable)
 plan_zones:(List GZone)
 plan_rules:(List GRule)
 plan_caps:(List GCap)
 plan_views:(List GView)
 plan_sun:(List GPoint3)
 plan_hours:Int
 land:(List GLot)
 easements:(List GEasement)
 windows:(List GWindow)
 built:(List GPlaced)
 base:(List GEntry)
def rowTown (x:GTown):List Tree:=[.sl (x.plan_defs.map rowDef),.sl (x.plan_tables.map rowTable),.sl (x.plan_zones.map rowZone),.sl (x.plan_rules.map rowRule),.sl (x.plan_caps.map rowCap),.sl (x.plan_views.map rowView),.sl (x.plan_sun.map rowPoint3),.sc (.int .i64 x.plan_hours),.sl (x.land.map rowLot),.sl (x.easements.map rowEasement),.sl (x.windows.map rowWindow),.sl (x.built.map rowPlaced),.sl (x.base.map rowEntry)]
structure GVolume where
 box_base_x0:Int
 box_base_y0:Int
 box_base_x1:Int
 box_base_y1:Int
 box_z0:Int
 box_z1:Int
 use:Int
 units:Int
 extra:Bool
 deriving DecidableEq,Inhabited
def rowVolume (x:GVolume):List Tree:=[.sc (.int .i64 x.box_base_x0),.sc (.int .i64 x.box_base_y0),.sc (.int .i64 x.box_base_x1),.sc (.int .i64 x.box_base_y1),.sc (.int .i64 x.box_z0),.sc (.int .i64 x.box_z1),.sc (.int .i64 x.use),.sc (.int .i64 x.units),.sc (.bool x.extra)]
structure GPhase where
 volumes:(List GVolume)
 gives:(List GEntry)
 deriving DecidableEq,Inhabited
def rowPhase (x:GPhase):List Tree:=[.sl (x.volumes.map rowVolume),.sl (x.gives.map rowEntry)]
structure GDrawing where
 lot:Int
 phases:(List GPhase)
 deriving DecidableEq,Inhabited
def rowDrawing (x:GDrawing):List Tree:=[.sc (.int .i64 x.lot),.sl (x.phases.map rowPhase)]
structure GPlan where
 defs:(List GDef)
 tables:(List GTable)
 zones:(List GZone)
 rules:(List GRule)
 caps:(List GCap)
 views:(List GView)
 sun:(List GPoint3)
 hours:Int
def rowPlan (x:GPlan):List Tree:=[.sl (x.defs.map rowDef),.sl (x.tables.map rowTable),.sl (x.zones.map rowZone),.sl (x.rules.map rowRule),.sl (x.caps.map rowCap),.sl (x.views.map rowView),.sl (x.sun.map rowPoint3),.sc (.int .i64 x.hours)]
structure Gspan where
 from_:Int
 to:Int
 deriving DecidableEq,Inhabited
def rowspan (x:Gspan):List Tree:=[.sc (.int .i64 x.from_),.sc (.int .i64 x.to)]
structure Gstrip where
 x0:Int
 x1:Int
 column:(List Gspan)
 deriving DecidableEq,Inhabited
def rowstrip (x:Gstrip):List Tree:=[.sc (.int .i64 x.x0),.sc (.int .i64 x.x1),.sl (x.column.map rowspan)]
inductive SI where
 |Rect
 |Def
 |Entry
 |Table
 |Point
 |Zone
 |Rule
 |Cap
 |Point3
 |View
 |Lot
 |Easement
 |Window
 |Placed
 |Town
 |Volume
 |Phase
 |Drawing
 |Plan
 |span
 |strip
 deriving DecidableEq
@[reducible] def TT:SI→Type
 | .Rect=>GRect
 | .Def=>GDef
 | .Entry=>GEntry
 | .Table=>GTable
 | .Point=>GPoint
 | .Zone=>GZone
 | .Rule=>GRule
 | .Cap=>GCap
 | .Point3=>GPoint3
 | .View=>GView
 | .Lot=>GLot
 | .Easement=>GEasement
 | .Window=>GWindow
 | .Placed=>GPlaced
 | .Town=>GTown
 | .Volume=>GVolume
 | .Phase=>GPhase
 | .Drawing=>GDrawing
 | .Plan=>GPlan
 | .span=>Gspan
 | .strip=>Gstrip
def rowS:(i:SI)→TT i→List Tree
 | .Rect,x=>rowRect x
 | .Def,x=>rowDef x
 | .Entry,x=>rowEntry x
 | .Table,x=>rowTable x
 | .Point,x=>rowPoint x
 | .Zone,x=>rowZone x
 | .Rule,x=>rowRule x
 | .Cap,x=>rowCap x
 | .Point3,x=>rowPoint3 x
 | .View,x=>rowView x
 | .Lot,x=>rowLot x
 | .Easement,x=>rowEasement x
 | .Window,x=>rowWindow x
 | .Placed,x=>rowPlaced x
 | .Town,x=>rowTown x
 | .Volume,x=>rowVolume x
 | .Phase,x=>rowPhase x
 | .Drawing,x=>rowDrawing x
 | .Plan,x=>rowPlan x
 | .span,x=>rowspan x
 | .strip,x=>rowstrip x
def se:SE:=⟨SI,inferInstance,TT,rowS⟩
def tysS:SI→List (CT SI)
 | .Rect=>[(.int .i64),(.int .i64),(.int .i64),(.int .i64)]
 | .Def=>[.str,(.int .i64),(.int .i64),.str,.str,.any]
 | .Entry=>[.str,(.int .i64)]
 | .Table=>[.str,(.sl (.st SI.Entry)),(.int .i64)]
 | .Point=>[(.int .i64),(.int .i64)]
 | .Zone=>[.str,.bool,(.sl (.st SI.Point))]
 | .Rule=>[.str,(.sl .str),(.sl .str),(.int .i64),(.int .i64),(.int .i64),.bool,(.int .i64),(.int .i64),(.int .i64),.str,.str,.any,(.int .i64),(.int .i64),(.int .i64),(.int .i64),(.int .i64),(.int .i64),(.int .i64)]
 | .Cap=>[.str,(.int .i64),(.int .i64),(.sl (.st SI.Point))]
 | .Point3=>[(.int .i64),(.int .i64),(.int .i64)]
 | .View=>[.str,(.int .i64),(.int .i64),(.int .i64),(.int .i64),(.sl (.st SI.Point3))]
 | .Lot=>[(.int .i64),(.int .i64),(.sl (.st SI.Rect)),(.sl (.int .i64))]
 | .Easement=>[(.int .i64),(.sl (.st SI.Rect)),(.int .i64)]
 | .Window=>[(.int .i64),(.int .i64),(.int .i64),(.int .i64)]
 | .Placed=>[(.int .i64),(.int .i64),(.int .i64),(.int .i64),(.int .i64),(.int .i64),(.int .i64),(.int .i64),(.int .i64),.bool]
 | .Town=>[(.sl (.st SI.Def)),(.sl (.st SI.Table)),(.sl (.st SI.Zone)),(.sl (.st SI.Rule)),(.sl (.st SI.Cap)),(.sl (.st SI.View)),(.sl (.st SI.Point3)),(.int .i64),(.sl (.st SI.Lot)),(.sl (.st SI.Easement)),(.sl (.st SI.Window)),(.sl (.st SI.Placed)),(.sl (.st SI.Entry))]
 | .Volume=>[(.int .i64),(.int .i64),(.int .i64),(.int .i64),(.int .i64),(.int .i64),(.int .i64),(.int .i64),.bool]
 | .Phase=>[(.sl (.st SI.Volume)),(.sl (.st SI.Entry))]
 | .Drawing=>[(.int .i64),(.sl (.st SI.Phase))]
 | .Plan=>[(.sl (.st SI.Def)),(.sl (.st SI.Table)),(.sl (.st SI.Zone)),(.sl (.st SI.Rule)),(.sl (.st SI.Cap)),(.sl (.st SI.View)),(.sl (.st SI.Point3)),(.int .i64)]
 | .span=>[(.int .i64),(.int .i64)]
 | .strip=>[(.int .i64),(.int .i64),(.sl (.st SI.span))]
def getS:(i:SI)→TT i→HL se (tysS i)
 | .Rect,x=>(x.x0,x.y0,x.x1,x.y1,())
 | .Def,x=>(x.name,x.body_op,x.body_n,x.body_s,x.body_key,x.body_args,())
 | .Entry,x=>(x.name,x.n,())
 | .Table,x=>(x.name,x.rows,x.else_,())
 | .Point,x=>(x.x,x.y,())
 | .Zone,x=>(x.name,x.overlay,x.corners,())
 | .Rule,x=>(x.name,x.zones,x.except,x.from_,x.until_,x.grace,x.vary,x.kind,x.test_op,x.test_n,x.test_s,x.test_key,x.test_args,x.plane_side,x.plane_base,x.plane_num,x.plane_den,x.uses,x.other,x.n,())
 | .Cap,x=>(x.name,x.load,x.limit,x.corners,())
 | .Point3,x=>(x.x,x.y,x.z,())
 | .View,x=>(x.name,x.eye_x,x.eye_y,x.eye_z,x.least,x.targets,())
 | .Lot,x=>(x.id,x.owner,x.area,x.from_,())
 | .Easement,x=>(x.lot,x.area,x.top,())
 | .Window,x=>(x.lot,x.at_x,x.at_y,x.at_z,())
 | .Placed,x=>(x.lot,x.volume_box_base_x0,x.volume_box_base_y0,x.volume_box_base_x1,x.volume_box_base_y1,x.volume_box_z0,x.volume_box_z1,x.volume_use,x.volume_units,x.volume_extra,())
 | .Town,x=>(x.plan_defs,x.plan_tables,x.plan_zones,x.plan_rules,x.plan_caps,x.plan_views,x.plan_sun,x.plan_hours,x.land,x.easements,x.windows,x.built,x.base,())
 | .Volume,x=>(x.box_base_x0,x.box_base_y0,x.box_base_x1,x.box_base_y1,x.box_z0,x.box_z1,x.use,x.units,x.extra,())
 | .Phase,x=>(x.volumes,x.gives,())
 | .Drawing,x=>(x.lot,x.phases,())
 | .Plan,x=>(x.defs,x.tables,x.zones,x.rules,x.caps,x.views,x.sun,x.hours,())
 | .span,x=>(x.from_,x.to,())
 | .strip,x=>(x.x0,x.x1,x.column,())
def makeS:(i:SI)→HL se (tysS i)→TT i
 | .Rect,h=>⟨h.1,h.2.1,h.2.2.1,h.2.2.2.1⟩
 | .Def,h=>⟨h.1,h.2.1,h.2.2.1,h.2.2.2.1,h.2.2.2.2.1,h.2.2.2.2.2.1⟩
 | .Entry,h=>⟨h.1,h.2.1⟩
 | .Table,h=>⟨h.1,h.2.1,h.2.2.1⟩
 | .Point,h=>⟨h.1,h.2.1⟩
 | .Zone,h=>⟨h.1,h.2.1,h.2.2.1⟩
 | .Rule,h=>⟨h.1,h.2.1,h.2.2.1,h.2.2.2.1,h.2.2.2.2.1,h.2.2.2.2.2.1,h.2.2.2.2.2.2.1,h.2.2.2.2.2.2.2.1,h.2.2.2.2.2.2.2.2.1,h.2.2.2.2.2.2.2.2.2.1,h.2.2.2.2.2.2.2.2.2.2.1,h.2.2.2.2.2.2.2.2.2.2.2.1,h.2.2.2.2.2.2.2.2.2.2.2.2.1,h.2.2.2.2.2.2.2.2.2.2.2.2.2.1,h.2.2.2.2.2.2.2.2.2.2.2.2.2.2.1,h.2.2.2.2.2.2.2.2.2.2.2.2.2.2.2.1,h.2.2.2.2.2.2.2.2.2.2.2.2.2.2.2.2.1,h.2.2.2.2.2.2.2.2.2.2.2.2.2.2.2.2.2.1,h.2.2.2.2.2.2.2.2.2.2.2.2.2.2.2.2.2.2.1,h.2.2.2.2.2.2.2.2.2.2.2.2.2.2.2.2.2.2.2.1⟩
 | .Cap,h=>⟨h.1,h.2.1,h.2.2.1,h.2.2.2.1⟩
 | .Point3,h=>⟨h.1,h.2.1,h.2.2.1⟩
 | .View,h=>⟨h.1,h.2.1,h.2.2.1,h.2.2.2.1,h.2.2.2.2.1,h.2.2.2.2.2.1⟩
 | .Lot,h=>⟨h.1,h.2.1,h.2.2.1,h.2.2.2.1⟩
 | .Easement,h=>⟨h.1,h.2.1,h.2.2.1⟩
 | .Window,h=>⟨h.1,h.2.1,h.2.2.1,h.2.2.2.1⟩
 | .Placed,h=>⟨h.1,h.2.1,h.2.2.1,h.2.2.2.1,h.2.2.2.2.1,h.2.2.2.2.2.1,h.2.2.2.2.2.2.1,h.2.2.2.2.2.2.2.1,h.2.2.2.2.2.2.2.2.1,h.2.2.2.2.2.2.2.2.2.1⟩
 | .Town,h=>⟨h.1,h.2.1,h.2.2.1,h.2.2.2.1,h.2.2.2.2.1,h.2.2.2.2.2.1,h.2.2.2.2.2.2.1,h.2.2.2.2.2.2.2.1,h.2.2.2.2.2.2.2.2.1,h.2.2.2.2.2.2.2.2.2.1,h.2.2.2.2.2.2.2.2.2.2.1,h.2.2.2.2.2.2.2.2.2.2.2.1,h.2.2.2.2.2.2.2.2.2.2.2.2.1⟩
 | .Volume,h=>⟨h.1,h.2.1,h.2.2.1,h.2.2.2.1,h.2.2.2.2.1,h.2.2.2.2.2.1,h.2.2.2.2.2.2.1,h.2.2.2.2.2.2.2.1,h.2.2.2.2.2.2.2.2.1⟩
 | .Phase,h=>⟨h.1,h.2.1⟩
 | .Drawing,h=>⟨h.1,h.2.1⟩
 | .Plan,h=>⟨h.1,h.2.1,h.2.2.1,h.2.2.2.1,h.2.2.2.2.1,h.2.2.2.2.2.1,h.2.2.2.2.2.2.1,h.2.2.2.2.2.2.2.1⟩
 | .span,h=>⟨h.1,h.2.1⟩
 | .strip,h=>⟨h.1,h.2.1,h.2.2.1⟩
def xx:SX:={ toSE:=se,tys:=tysS,get:=getS,make:=makeS,row_get:=by intro i x;cases i<;>rfl,row_make:=by intro i h;cases i<;>rfl,flat:=by intro i;cases i<;>rfl }
def tab:List (TypeId×TyI):=[
 (3,⟨1,8,false,[.int .i64 0],.int .i64,[]⟩),
 (4,⟨1,1,false,[.bool false],.bool,[]⟩),
 (5,⟨1,1,false,[.int .u8 0],.int .u8,[]⟩),
 (9,⟨1,16,false,[.string ⟨#[]⟩],.str,[]⟩),
 (22,⟨1,24,false,[.slice none 0 0],.slice 208,[]⟩),
 (23,⟨1,24,false,[.slice none 0 0],.slice 64,[]⟩),
 (24,⟨1,24,false,[.slice none 0 0],.slice 211,[]⟩),
 (25,⟨1,24,false,[.slice none 0 0],.slice 216,[]⟩),
 (26,⟨1,24,false,[.slice none 0 0],.slice 218,[]⟩),
 (27,⟨1,24,false,[.slice none 0 0],.slice 222,[]⟩),
 (28,⟨1,24,false,[.slice none 0 0],.slice 220,[]⟩),
 (30,⟨8,176,true,[.slice none 0 0,.slice none 0 0,.slice none 0 0,.slice none 0 0,.slice none 0 0,.slice none 0 0,.slice none 0 0,.int .i64 0],.struct [(0,22),(1,23),(2,24),(3,25),(4,26),(5,27),(6,28),(7,3)],[]⟩),
 (31,⟨1,24,false,[.slice none 0 0],.slice 51,[]⟩),
 (32,⟨1,24,false,[.slice none 0 0],.slice 224,[]⟩),
 (33,⟨1,24,false,[.slice none 0 0],.slice 226,[]⟩),
 (34,⟨1,24,false,[.slice none 0 0],.slice 228,[]⟩),
 (35,⟨1,24,false,[.slice none 0 0],.slice 82,[]⟩),
 (37,⟨13,296,true,[.slice none 0 0,.slice none 0 0,.slice none 0 0,.slice none 0 0,.slice none 0 0,.slice none 0 0,.slice none 0 0,.int .i64 0,.slice none 0 0,.slice none 0 0,.slice none 0 0,.slice none 0 0,.slice none 0 0],.struct [(0,30),(8,31),(9,32),(10,33),(11,34),(12,35)],[]⟩),
 (38,⟨1,24,false,[.slice none 0 0],.slice 67,[]⟩),
 (40,⟨2,32,true,[.int .i64 0,.slice none 0 0],.struct [(0,3),(1,38)],[]⟩),
 (41,⟨1,24,false,[.slice none 0 0],.slice 84,[]⟩),
 (44,⟨1,24,false,[.slice none 0 0],.slice 3,[]⟩),
 (51,⟨4,64,true,[.int .i64 0,.int .i64 0,.slice none 0 0,.slice none 0 0],.struct [(0,3),(1,3),(2,41),(3,44)],[]⟩),
 (64,⟨3,48,true,[.string ⟨#[]⟩,.slice none 0 0,.int .i64 0],.struct [(0,9),(1,35),(2,3)],[]⟩),
 (65,⟨1,24,false,[.slice none 0 0],.slice 88,[]⟩),
 (67,⟨2,48,true,[.slice none 0 0,.slice none 0 0],.struct [(0,65),(1,35)],[]⟩),
 (82,⟨2,24,true,[.string ⟨#[]⟩,.int .i64 0],.struct [(0,9),(1,3)],[2,0]⟩),
 (84,⟨4,32,true,[.int .i64 0,.int .i64 0,.int .i64 0,.int .i64 0],.struct [(0,3),(1,3),(2,3),(3,3)],[0,0,0,0]⟩),
 (86,⟨6,48,true,[.int .i64 0,.int .i64 0,.int .i64 0,.int .i64 0,.int .i64 0,.int .i64 0],.struct [(0,84),(4,3),(5,3)],[]⟩),
 (88,⟨9,72,true,[.int .i64 0,.int .i64 0,.int .i64 0,.int .i64 0,.int .i64 0,.int .i64 0,.int .i64 0,.int .i64 0,.bool false],.struct [(0,86),(6,3),(7,3),(8,4)],[]⟩),
 (89,⟨6,96,true,[.string ⟨#[]⟩,.string ⟨#[]⟩,.string ⟨#[]⟩,.string ⟨#[]⟩,.string ⟨#[]⟩,.string ⟨#[]⟩],.arr 6 9,[]⟩),
 (94,⟨1,8,false,[.int .u64 0],.int .u64,[]⟩),
 (95,⟨1,8,false,[.map none],.map 3 4,[]⟩),
 (102,⟨1,24,false,[.slice none 0 0],.slice 41,[]⟩),
 (125,⟨1,4,false,[.int .u32 0],.int .u32,[]⟩),
 (127,⟨1,8,false,[.int .u64 0],.int .u64,[]⟩),
 (133,⟨1,24,false,[.slice none 0 0],.slice 138,[]⟩),
 (136,⟨1,24,false,[.slice none 0 0],.slice 154,[]⟩),
 (138,⟨3,40,true,[.int .i64 0,.int .i64 0,.slice none 0 0],.struct [(0,3),(1,3),(2,136)],[]⟩),
 (145,⟨1,8,false,[.int .u64 0],.int .u64,[]⟩),
 (154,⟨2,16,true,[.int .i64 0,.int .i64 0],.struct [(0,3),(1,3)],[0,0]⟩),
 (173,⟨1,24,false,[.slice none 0 0],.slice 136,[]⟩),
 (204,⟨1,24,false,[.slice none 0 0],.slice 206,[]⟩),
 (206,⟨5,72,true,[.int .i64 0,.int .i64 0,.string ⟨#[]⟩,.string ⟨#[]⟩,.slice none 0 0],.struct [(0,3),(1,3),(2,9),(3,9),(4,204)],[]⟩),
 (208,⟨6,88,true,[.string ⟨#[]⟩,.int .i64 0,.int .i64 0,.string ⟨#[]⟩,.string ⟨#[]⟩,.slice none 0 0],.struct [(0,9),(1,206)],[]⟩),
 (209,⟨1,24,false,[.slice none 0 0],.slice 231,[]⟩),
 (211,⟨3,48,true,[.string ⟨#[]⟩,.bool false,.slice none 0 0],.struct [(0,9),(1,4),(2,209)],[]⟩),
 (212,⟨1,24,false,[.slice none 0 0],.slice 9,[]⟩),
 (214,⟨4,32,true,[.int .i64 0,.int .i64 0,.int .i64 0,.int .i64 0],.struct [(0,3),(1,3),(2,3),(3,3)],[0,0,0,0]⟩),
 (216,⟨20,232,true,[.string ⟨#[]⟩,.slice none 0 0,.slice none 0 0,.int .i64 0,.int .i64 0,.int .i64 0,.bool false,.int .i64 0,.int .i64 0,.int .i64 0,.string ⟨#[]⟩,.string ⟨#[]⟩,.slice none 0 0,.int .i64 0,.int .i64 0,.int .i64 0,.int .i64 0,.int .i64 0,.int .i64 0,.int .i64 0],.struct [(0,9),(1,212),(2,212),(3,3),(4,3),(5,3),(6,4),(7,3),(8,206),(13,214),(17,3),(18,3),(19,3)],[]⟩),
 (218,⟨4,56,true,[.string ⟨#[]⟩,.int .i64 0,.int .i64 0,.slice none 0 0],.struct [(0,9),(1,3),(2,3),(3,209)],[]⟩),
 (220,⟨3,24,true,[.int .i64 0,.int .i64 0,.int .i64 0],.struct [(0,3),(1,3),(2,3)],[0,0,0]⟩),
 (222,⟨6,72,true,[.string ⟨#[]⟩,.int .i64 0,.int .i64 0,.int .i64 0,.int .i64 0,.slice none 0 0],.struct [(0,9),(1,220),(4,3),(5,28)],[]⟩),
 (224,⟨3,40,true,[.int .i64 0,.slice none 0 0,.int .i64 0],.struct [(0,3),(1,41),(2,3)],[]⟩),
 (226,⟨4,32,true,[.int .i64 0,.int .i64 0,.int .i64 0,.int .i64 0],.struct [(0,3),(1,220)],[]⟩),
 (228,⟨10,80,true,[.int .i64 0,.int .i64 0,.int .i64 0,.int .i64 0,.int .i64 0,.int .i64 0,.int .i64 0,.int .i64 0,.int .i64 0,.bool false],.struct [(0,3),(1,88)],[]⟩),
 (231,⟨2,16,true,[.int .i64 0,.int .i64 0],.struct [(0,3),(1,3)],[0,0]⟩)]
def codeL:List (TypeId×CT SI):=[(3,(.int .i64)),(4,.bool),(9,.str),(41,(.sl (.st SI.Rect))),(44,(.sl (.int .i64))),(51,(.st SI.Lot)),(64,(.st SI.Table)),(67,(.st SI.Phase)),(82,(.st SI.Entry)),(84,(.st SI.Rect)),(88,(.st SI.Volume)),(136,(.sl (.st SI.span))),(138,(.st SI.strip)),(154,(.st SI.span))]
def codeT:TypeId→Option (CT xx.ι):=lk codeL
theorem tabok:TabOk Tryz.prog (tabOf tab):=tabOk_of (by kernel_rfl)
theorem mixed:Tryz.prog.follows .mixedOrders=true:=Checked.mixed Tryz.checked
theorem cq {f:FuncId} {fn:Func} {l:List (FuncId×Sig xx)} (hΓ:GOk Tryz.prog (gam l)) (hfn:Tryz.prog.funcs[f]? =some fn) {s:Sig xx} (h:Hn SI) (n:Nat)
 (hq : (fn.body.isSome && !(fn.name == "runtime.NumGoroutine") && decide (s.args.length ≤ fn.ntmps ∧ muts s.args ≤ 1000 ∧ (s.res.filter RT.out).length = muts s.args)) = true) (hg : s.gen = none)
 (hr:∀ a,run (gam l) (tabOf tab) codeT fn.ntmps n (fn.body.getD .skip) (ResT xx s.res) h (ini s.args a) (kRet (tabOf tab) fn.results.toList s.res)=s.fn a):COk Tryz.prog f s:=by
 rw[and_eq_true,and_eq_true]at hq
 obtain⟨⟨q1,q2⟩,q3⟩:=hq
 have hb:fn.body=some (fn.body.getD .skip):=by
  cases hc:fn.body with
  |none=>rw[hc]at q1;cases q1
  |some c=>rfl
 have hn : (fn.name == "runtime.NumGoroutine") = false := by simpa using q2
 exact cok (callable_of hfn hb hn) (fun a _ e=>fn_ok tabok mixed hΓ hfn hb hn _ _ (of_decide_eq_true q3) h n ((hr a).trans e)) hg
theorem cqG {f:FuncId} {fn:Func} {l:List (FuncId×Sig xx)} (hΓ:GOk Tryz.prog (gam l)) (hfn:Tryz.prog.funcs[f]? =some fn) {g:GSig xx} (h:Hn SI) (n:Nat)
 (hq : (fn.body.isSome && !(fn.name == "runtime.NumGoroutine") && decide (g.inP.length ≤ fn.ntmps) && g.inOk) = true)
 (hr:∀ v,run (gam l) (tabOf tab) codeT fn.ntmps n (fn.body.getD .skip) (VT (X:=xx) (outSh g).vars) h (gIni g v) (kRetG (tabOf tab) fn.results.toList g)=g.fn v):COk Tryz.prog f ⟨[],[.d .bool],fun _=>none,some g⟩:=by
 rw[and_eq_true,and_eq_true,and_eq_true]at hq
 obtain⟨⟨⟨q1,q2⟩,q3⟩,q4⟩:=hq
 have hb:fn.body=some (fn.body.getD .skip):=by
  cases hc:fn.body with
  |none=>rw[hc]at q1;cases q1
  |some c=>rfl
 have hn : (fn.name == "runtime.NumGoroutine") = false := by simpa using q2
 exact cokG (callable_of hfn hb hn) (fn_okG tabok mixed hΓ hfn hb hn g (of_decide_eq_true q3) q4 h n (fun v _ e=>(hr v).trans e))
theorem gcn:GOk Tryz.prog (gam ([]:List (FuncId×Sig xx))):=gam_nil
end Go.Proofs
