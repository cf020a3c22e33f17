/-
  Printed by wip/gen: what functions of the program compute, and that they do.
-/
import Derived.Test.YtaajfjagnnajdaaGreatSeq
import Derived.Test.YtaajfjagnnajdaaGreatChecked
open Bool (and_eq_true)
namespace Go.Proofs
open Go.Gb Go.RowKit
structure kr where
 a0:Int
 a1:Int
 deriving DecidableEq,Inhabited
def U2 (x:kr):List Tree:=[.sc (.int .i64 x.a0),.sc (.int .i64 x.a1)]
structure aV where
 values:Int
 pairs:(List kr)
 deriving DecidableEq,Inhabited
def adW (x:aV):List Tree:=[.sc (.int .i64 x.values),.sl (x.pairs.map U2)]
structure bI where
 l:List Bool
 h:l.length=144
 deriving DecidableEq
def Wz (x:bI):List Tree:=x.l.map fun y=> .sc (.bool y)
def bC (l:List Bool):Option bI:=if h:l.length=144 then some ⟨l,h⟩else none
structure au where
 x0:Int
 y0:Int
 x1:Int
 y1:Int
 deriving DecidableEq,Inhabited
def Pj (x:au):List Tree:=[.sc (.int .i64 x.x0),.sc (.int .i64 x.y0),.sc (.int .i64 x.x1),.sc (.int .i64 x.y1)]
structure iI where
 id:Int
 owner:Int
 area:(List au)
 from_:(List Int)
 deriving DecidableEq,Inhabited
def adX (x:iI):List Tree:=[.sc (.int .i64 x.id),.sc (.int .i64 x.owner),.sl (x.area.map Pj),.sl (x.from_.map (fun y=>[.sc (.int .i64 y)]))]
structure aD where
 from_:Int
 to:Int
 deriving DecidableEq,Inhabited
def abr (x:aD):List Tree:=[.sc (.int .i64 x.from_),.sc (.int .i64 x.to)]
structure dL where
 x0:Int
 x1:Int
 column:(List aD)
 deriving DecidableEq,Inhabited
def adY (x:dL):List Tree:=[.sc (.int .i64 x.x0),.sc (.int .i64 x.x1),.sl (x.column.map abr)]
structure aB where
 box_base_x0:Int
 box_base_y0:Int
 box_base_x1:Int
 box_base_y1:Int
 box_z0:Int
 box_z1:Int
 use:Int
 units:Int
 extra:Bool
 deriving DecidableEq,Inhabited
def Mt (x:aB):List Tree:=[.sc (.int .i64 x.box_base_x0),.sc (.int .i64 x.box_base_y0),.sc (.int .i64 x.box_base_x1),.sc (.int .i64 x.box_base_y1),.sc (.int .i64 x.box_z0),.sc (.int .i64 x.box_z1),.sc (.int .i64 x.use),.sc (.int .i64 x.units),.sc (.bool x.extra)]
structure bA where
 name:ByteArray
 n:Int
 deriving DecidableEq,Inhabited
def KH (x:bA):List Tree:=[.sc (.string x.name),.sc (.int .i64 x.n)]
structure xH where
 volumes:(List aB)
 gives:(List bA)
 deriving DecidableEq,Inhabited
def Yt (x:xH):List Tree:=[.sl (x.volumes.map Mt),.sl (x.gives.map KH)]
structure dw where
 lot:Int
 phases:(List xH)
 deriving DecidableEq,Inhabited
def aai (x:dw):List Tree:=[.sc (.int .i64 x.lot),.sl (x.phases.map Yt)]
structure N8 where
 op:Int
 n:Int
 s:ByteArray
 key:ByteArray
 args:(List N8)
mutual
def zY:N8->List Tree
 |⟨f0,f1,f2,f3,f4⟩=>[.sc (.int .i64 f0),.sc (.int .i64 f1),.sc (.string f2),.sc (.string f3),.sl (KI f4)]
def KI:List N8->List (List Tree)
 |[]=>[]
 |x::xs=>zY x::KI xs
end
theorem KJ:∀ l:List N8,KI l=l.map zY
 |[]=>rfl
 |x::xs=>by rw[KI,KJ xs];rfl
theorem Rz (x:N8):zY x=[.sc (.int .i64 x.op),.sc (.int .i64 x.n),.sc (.string x.s),.sc (.string x.key),.sl (x.args.map zY)]:=by cases x;simp only[zY,KJ]
structure eD where
 name:ByteArray
 body_op:Int
 body_n:Int
 body_s:ByteArray
 body_key:ByteArray
 body_args:(List N8)
def WA (x:eD):List Tree:=[.sc (.string x.name),.sc (.int .i64 x.body_op),.sc (.int .i64 x.body_n),.sc (.string x.body_s),.sc (.string x.body_key),.sl (x.body_args.map zY)]
structure bf where
 name:ByteArray
 rows:(List bA)
 else_:Int
 deriving DecidableEq,Inhabited
def KL (x:bf):List Tree:=[.sc (.string x.name),.sl (x.rows.map KH),.sc (.int .i64 x.else_)]
structure WB where
 x:Int
 y:Int
 deriving DecidableEq,Inhabited
def RA (x:WB):List Tree:=[.sc (.int .i64 x.x),.sc (.int .i64 x.y)]
structure bS where
 name:ByteArray
 overlay:Bool
 corners:(List WB)
 deriving DecidableEq,Inhabited
def Pk (x:bS):List Tree:=[.sc (.string x.name),.sc (.bool x.overlay),.sl (x.corners.map RA)]
structure aY where
 name:ByteArray
 zones:(List ByteArray)
 except:(List ByteArray)
 from_:Int
 until_:Int
 grace:Int
 vary:Bool
 kind:Int
 test_op:Int
 test_n:Int
 test_s:ByteArray
 test_key:ByteArray
 test_args:(List N8)
 plane_side:Int
 plane_base:Int
 plane_num:Int
 plane_den:Int
 uses:Int
 other:Int
 n:Int
def Pm (x:aY):List Tree:=[.sc (.string x.name),.sl (x.zones.map (fun y=>[.sc (.string y)])),.sl (x.except.map (fun y=>[.sc (.string y)])),.sc (.int .i64 x.from_),.sc (.int .i64 x.until_),.sc (.int .i64 x.grace),.sc (.bool x.vary),.sc (.int .i64 x.kind),.sc (.int .i64 x.test_op),.sc (.int .i64 x.test_n),.sc (.string x.test_s),.sc (.string x.test_key),.sl (x.test_args.map zY),.sc (.int .i64 x.plane_side),.sc (.int .i64 x.plane_base),.sc (.int .i64 x.plane_num),.sc (.int .i64 x.plane_den),.sc (.int .i64 x.uses),.sc (.int .i64 x.other),.sc (.int .i64 x.n)]
structure eF where
 name:ByteArray
 load:Int
 limit:Int
 corners:(List WB)
 deriving DecidableEq,Inhabited
def WC (x:eF):List Tree:=[.sc (.string x.name),.sc (.int .i64 x.load),.sc (.int .i64 x.limit),.sl (x.corners.map RA)]
structure aT where
 x:Int
 y:Int
 z:Int
 deriving DecidableEq,Inhabited
def BS (x:aT):List Tree:=[.sc (.int .i64 x.x),.sc (.int .i64 x.y),.sc (.int .i64 x.z)]
structure bT where
 name:ByteArray
 eye_x:Int
 eye_y:Int
 eye_z:Int
 least:Int
 targets:(List aT)
 deriving DecidableEq,Inhabited
def Pn (x:bT):List Tree:=[.sc (.string x.name),.sc (.int .i64 x.eye_x),.sc (.int .i64 x.eye_y),.sc (.int .i64 x.eye_z),.sc (.int .i64 x.least),.sl (x.targets.map BS)]
structure afJ where
 plan_defs:(List eD)
 plan_tables:(List bf)
 plan_zones:(List bS)
 plan_rules:(List aY)
 plan_caps:(List eF)
 plan_views:(List bT)
 plan_sun:(List aT)
 plan_hours:Int
 area:(List au)
 volumes:(List aB)
def afa (x:afJ):List Tree:=[.sl (x.plan_defs.map WA),.sl (x.plan_tables.map KL),.sl (x.plan_zones.map Pk),.sl (x.plan_rules.map Pm),.sl (x.plan_caps.map WC),.sl (x.plan_views.map Pn),.sl (x.plan_sun.map BS),.sc (.int .i64 x.plan_hours),.sl (x.area.map Pj),.sl (x.volumes.map Mt)]
structure Hr where
 a0:ByteArray
 a1:ByteArray
 a2:ByteArray
 a3:ByteArray
 a4:ByteArray
 a5:ByteArray
 deriving DecidableEq,Inhabited
def acB (x:Hr):List Tree:=[.sc (.string x.a0),.sc (.string x.a1),.sc (.string x.a2),.sc (.string x.a3),.sc (.string x.a4),.sc (.string x.a5)]
structure o8 where
 defs:(List eD)
 tables:(List bf)
 zones:(List bS)
 rules:(List aY)
 caps:(List eF)
 views:(List bT)
 sun:(List aT)
 hours:Int
def afb (x:o8):List Tree:=[.sl (x.defs.map WA),.sl (x.tables.map KL),.sl (x.zones.map Pk),.sl (x.rules.map Pm),.sl (x.caps.map WC),.sl (x.views.map Pn),.sl (x.sun.map BS),.sc (.int .i64 x.hours)]
structure Ht where
 lot:Int
 area:(List au)
 top:Int
 deriving DecidableEq,Inhabited
def N9 (x:Ht):List Tree:=[.sc (.int .i64 x.lot),.sl (x.area.map Pj),.sc (.int .i64 x.top)]
structure WE where
 lot:Int
 at_x:Int
 at_y:Int
 at_z:Int
 deriving DecidableEq,Inhabited
def U3 (x:WE):List Tree:=[.sc (.int .i64 x.lot),.sc (.int .i64 x.at_x),.sc (.int .i64 x.at_y),.sc (.int .i64 x.at_z)]
structure WG where
 lot:Int
 volume_box_base_x0:Int
 volume_box_base_y0:Int
 volume_box_base_x1:Int
 volume_box_base_y1:Int
 volume_box_z0:Int
 volume_box_z1:Int
 volume_use:Int
 volume_units:Int
 volume_extra:Bool
 deriving DecidableEq,Inhabited
def U4 (x:WG):List Tree:=[.sc (.int .i64 x.lot),.sc (.int .i64 x.volume_box_base_x0),.sc (.int .i64 x.volume_box_base_y0),.sc (.int .i64 x.volume_box_base_x1),.sc (.int .i64 x.volume_box_base_y1),.sc (.int .i64 x.volume_box_z0),.sc (.int .i64 x.volume_box_z1),.sc (.int .i64 x.volume_use),.sc (.int .i64 x.volume_units),.sc (.bool x.volume_extra)]
structure vK where
 plan_defs:(List eD)
 plan_tables:(List bf)
 plan_zones:(List bS)
 plan_rules:(List aY)
 plan_caps:(List eF)
 plan_views:(List bT)
 plan_sun:(List aT)
 plan_hours:Int
 land:(List iI)
 easements:(List Ht)
 windows:(List WE)
 built:(List WG)
 base:(List bA)
def afc (x:vK):List Tree:=[.sl (x.plan_defs.map WA),.sl (x.plan_tables.map KL),.sl (x.plan_zones.map Pk),.sl (x.plan_rules.map Pm),.sl (x.plan_caps.map WC),.sl (x.plan_views.map Pn),.sl (x.plan_sun.map BS),.sc (.int .i64 x.plan_hours),.sl (x.land.map adX),.sl (x.easements.map N9),.sl (x.windows.map U3),.sl (x.built.map U4),.sl (x.base.map KH)]
structure tY where
 l:List Int
 h:l.length=12
 deriving DecidableEq
def aaj (x:tY):List Tree:=x.l.map fun y=> .sc (.int .i64 y)
def rR (l:List Int):Option tY:=if h:l.length=12 then some ⟨l,h⟩else none
structure aI where
 id:Int
 values:(List Int)
 grant:Bool
 deriving DecidableEq,Inhabited
def afd (x:aI):List Tree:=[.sc (.int .i64 x.id),.sl (x.values.map (fun y=>[.sc (.int .i64 y)])),.sc (.bool x.grant)]
structure adZ where
 id:Int
 values:(List Int)
 officer:Bool
 deriving DecidableEq,Inhabited
def agb (x:adZ):List Tree:=[.sc (.int .i64 x.id),.sl (x.values.map (fun y=>[.sc (.int .i64 y)])),.sc (.bool x.officer)]
structure Mv where
 l:List Bool
 h:l.length=12
 deriving DecidableEq
def Yu (x:Mv):List Tree:=x.l.map fun y=> .sc (.bool y)
def Jk (l:List Bool):Option Mv:=if h:l.length=12 then some ⟨l,h⟩else none
inductive SI where
 |A2_i64
 |Order
 |A144_bool
 |Rect
 |Lot
 |span
 |strip
 |Volume
 |Entry
 |Phase
 |Drawing
 |Expr
 |Def
 |Table
 |Point
 |Zone
 |Rule
 |Cap
 |Point3
 |View
 |site
 |A6_str
 |Plan
 |Easement
 |Window
 |Placed
 |Town
 |A12_i64
 |Case
 |Ask
 |A12_bool
 deriving DecidableEq
@[reducible] def TT:SI->Type
 | .A2_i64=>kr
 | .Order=>aV
 | .A144_bool=>bI
 | .Rect=>au
 | .Lot=>iI
 | .span=>aD
 | .strip=>dL
 | .Volume=>aB
 | .Entry=>bA
 | .Phase=>xH
 | .Drawing=>dw
 | .Expr=>N8
 | .Def=>eD
 | .Table=>bf
 | .Point=>WB
 | .Zone=>bS
 | .Rule=>aY
 | .Cap=>eF
 | .Point3=>aT
 | .View=>bT
 | .site=>afJ
 | .A6_str=>Hr
 | .Plan=>o8
 | .Easement=>Ht
 | .Window=>WE
 | .Placed=>WG
 | .Town=>vK
 | .A12_i64=>tY
 | .Case=>aI
 | .Ask=>adZ
 | .A12_bool=>Mv
def agV:(i:SI)->TT i->List Tree
 | .A2_i64,x=>U2 x
 | .Order,x=>adW x
 | .A144_bool,x=>Wz x
 | .Rect,x=>Pj x
 | .Lot,x=>adX x
 | .span,x=>abr x
 | .strip,x=>adY x
 | .Volume,x=>Mt x
 | .Entry,x=>KH x
 | .Phase,x=>Yt x
 | .Drawing,x=>aai x
 | .Expr,x=>zY x
 | .Def,x=>WA x
 | .Table,x=>KL x
 | .Point,x=>RA x
 | .Zone,x=>Pk x
 | .Rule,x=>Pm x
 | .Cap,x=>WC x
 | .Point3,x=>BS x
 | .View,x=>Pn x
 | .site,x=>afa x
 | .A6_str,x=>acB x
 | .Plan,x=>afb x
 | .Easement,x=>N9 x
 | .Window,x=>U3 x
 | .Placed,x=>U4 x
 | .Town,x=>afc x
 | .A12_i64,x=>aaj x
 | .Case,x=>afd x
 | .Ask,x=>agb x
 | .A12_bool,x=>Yu x
def se:SE:=⟨SI,inferInstance,TT,agV⟩
def agc:SI->List (CT SI)
 | .A2_i64=>[(.int .i64),(.int .i64)]
 | .Order=>[(.int .i64),(.sl (.st SI.A2_i64))]
 | .A144_bool=>List.replicate 144 .bool
 | .Rect=>[(.int .i64),(.int .i64),(.int .i64),(.int .i64)]
 | .Lot=>[(.int .i64),(.int .i64),(.sl (.st SI.Rect)),(.sl (.int .i64))]
 | .span=>[(.int .i64),(.int .i64)]
 | .strip=>[(.int .i64),(.int .i64),(.sl (.st SI.span))]
 | .Volume=>[(.int .i64),(.int .i64),(.int .i64),(.int .i64),(.int .i64),(.int .i64),(.int .i64),(.int .i64),.bool]
 | .Entry=>[.str,(.int .i64)]
 | .Phase=>[(.sl (.st SI.Volume)),(.sl (.st SI.Entry))]
 | .Drawing=>[(.int .i64),(.sl (.st SI.Phase))]
 | .Expr=>[(.int .i64),(.int .i64),.str,.str,(.sl (.st SI.Expr))]
 | .Def=>[.str,(.int .i64),(.int .i64),.str,.str,(.sl (.st SI.Expr))]
 | .Table=>[.str,(.sl (.st SI.Entry)),(.int .i64)]
 | .Point=>[(.int .i64),(.int .i64)]
 | .Zone=>[.str,.bool,(.sl (.st SI.Point))]
 | .Rule=>[.str,(.sl .str),(.sl .str),(.int .i64),(.int .i64),(.int .i64),.bool,(.int .i64),(.int .i64),(.int .i64),.str,.str,(.sl (.st SI.Expr)),(.int .i64),(.int .i64),(.int .i64),(.int .i64),(.int .i64),(.int .i64),(.int .i64)]
 | .Cap=>[.str,(.int .i64),(.int .i64),(.sl (.st SI.Point))]
 | .Point3=>[(.int .i64),(.int .i64),(.int .i64)]
 | .View=>[.str,(.int .i64),(.int .i64),(.int .i64),(.int .i64),(.sl (.st SI.Point3))]
 | .site=>[(.sl (.st SI.Def)),(.sl (.st SI.Table)),(.sl (.st SI.Zone)),(.sl (.st SI.Rule)),(.sl (.st SI.Cap)),(.sl (.st SI.View)),(.sl (.st SI.Point3)),(.int .i64),(.sl (.st SI.Rect)),(.sl (.st SI.Volume))]
 | .A6_str=>[.str,.str,.str,.str,.str,.str]
 | .Plan=>[(.sl (.st SI.Def)),(.sl (.st SI.Table)),(.sl (.st SI.Zone)),(.sl (.st SI.Rule)),(.sl (.st SI.Cap)),(.sl (.st SI.View)),(.sl (.st SI.Point3)),(.int .i64)]
 | .Easement=>[(.int .i64),(.sl (.st SI.Rect)),(.int .i64)]
 | .Window=>[(.int .i64),(.int .i64),(.int .i64),(.int .i64)]
 | .Placed=>[(.int .i64),(.int .i64),(.int .i64),(.int .i64),(.int .i64),(.int .i64),(.int .i64),(.int .i64),(.int .i64),.bool]
 | .Town=>[(.sl (.st SI.Def)),(.sl (.st SI.Table)),(.sl (.st SI.Zone)),(.sl (.st SI.Rule)),(.sl (.st SI.Cap)),(.sl (.st SI.View)),(.sl (.st SI.Point3)),(.int .i64),(.sl (.st SI.Lot)),(.sl (.st SI.Easement)),(.sl (.st SI.Window)),(.sl (.st SI.Placed)),(.sl (.st SI.Entry))]
 | .A12_i64=>List.replicate 12 (.int .i64)
 | .Case=>[(.int .i64),(.sl (.int .i64)),.bool]
 | .Ask=>[(.int .i64),(.sl (.int .i64)),.bool]
 | .A12_bool=>List.replicate 12 .bool
def ag9:(i:SI)->TT i->HL se (agc i)
 | .A2_i64,x=>(x.a0,x.a1,())
 | .Order,x=>(x.values,x.pairs,())
 | .A144_bool,x=>Ul se .bool 144 x.l x.h
 | .Rect,x=>(x.x0,x.y0,x.x1,x.y1,())
 | .Lot,x=>(x.id,x.owner,x.area,x.from_,())
 | .span,x=>(x.from_,x.to,())
 | .strip,x=>(x.x0,x.x1,x.column,())
 | .Volume,x=>(x.box_base_x0,x.box_base_y0,x.box_base_x1,x.box_base_y1,x.box_z0,x.box_z1,x.use,x.units,x.extra,())
 | .Entry,x=>(x.name,x.n,())
 | .Phase,x=>(x.volumes,x.gives,())
 | .Drawing,x=>(x.lot,x.phases,())
 | .Expr,x=>(x.op,x.n,x.s,x.key,x.args,())
 | .Def,x=>(x.name,x.body_op,x.body_n,x.body_s,x.body_key,x.body_args,())
 | .Table,x=>(x.name,x.rows,x.else_,())
 | .Point,x=>(x.x,x.y,())
 | .Zone,x=>(x.name,x.overlay,x.corners,())
 | .Rule,x=>(x.name,x.zones,x.except,x.from_,x.until_,x.grace,x.vary,x.kind,x.test_op,x.test_n,x.test_s,x.test_key,x.test_args,x.plane_side,x.plane_base,x.plane_num,x.plane_den,x.uses,x.other,x.n,())
 | .Cap,x=>(x.name,x.load,x.limit,x.corners,())
 | .Point3,x=>(x.x,x.y,x.z,())
 | .View,x=>(x.name,x.eye_x,x.eye_y,x.eye_z,x.least,x.targets,())
 | .site,x=>(x.plan_defs,x.plan_tables,x.plan_zones,x.plan_rules,x.plan_caps,x.plan_views,x.plan_sun,x.plan_hours,x.area,x.volumes,())
 | .A6_str,x=>(x.a0,x.a1,x.a2,x.a3,x.a4,x.a5,())
 | .Plan,x=>(x.defs,x.tables,x.zones,x.rules,x.caps,x.views,x.sun,x.hours,())
 | .Easement,x=>(x.lot,x.area,x.top,())
 | .Window,x=>(x.lot,x.at_x,x.at_y,x.at_z,())
 | .Placed,x=>(x.lot,x.volume_box_base_x0,x.volume_box_base_y0,x.volume_box_base_x1,x.volume_box_base_y1,x.volume_box_z0,x.volume_box_z1,x.volume_use,x.volume_units,x.volume_extra,())
 | .Town,x=>(x.plan_defs,x.plan_tables,x.plan_zones,x.plan_rules,x.plan_caps,x.plan_views,x.plan_sun,x.plan_hours,x.land,x.easements,x.windows,x.built,x.base,())
 | .A12_i64,x=>Ul se (.int .i64) 12 x.l x.h
 | .Case,x=>(x.id,x.values,x.grant,())
 | .Ask,x=>(x.id,x.values,x.officer,())
 | .A12_bool,x=>Ul se .bool 12 x.l x.h
def agW:(i:SI)->HL se (agc i)->TT i
 | .A2_i64,h=>⟨h.1,h.2.1⟩
 | .Order,h=>⟨h.1,h.2.1⟩
 | .A144_bool,h=>⟨Zx se .bool 144 h,Pd se _ _ h⟩
 | .Rect,h=>⟨h.1,h.2.1,h.2.2.1,h.2.2.2.1⟩
 | .Lot,h=>⟨h.1,h.2.1,h.2.2.1,h.2.2.2.1⟩
 | .span,h=>⟨h.1,h.2.1⟩
 | .strip,h=>⟨h.1,h.2.1,h.2.2.1⟩
 | .Volume,h=>⟨h.1,h.2.1,h.2.2.1,h.2.2.2.1,h.2.2.2.2.1,h.2.2.2.2.2.1,h.2.2.2.2.2.2.1,h.2.2.2.2.2.2.2.1,h.2.2.2.2.2.2.2.2.1⟩
 | .Entry,h=>⟨h.1,h.2.1⟩
 | .Phase,h=>⟨h.1,h.2.1⟩
 | .Drawing,h=>⟨h.1,h.2.1⟩
 | .Expr,h=>⟨h.1,h.2.1,h.2.2.1,h.2.2.2.1,h.2.2.2.2.1⟩
 | .Def,h=>⟨h.1,h.2.1,h.2.2.1,h.2.2.2.1,h.2.2.2.2.1,h.2.2.2.2.2.1⟩
 | .Table,h=>⟨h.1,h.2.1,h.2.2.1⟩
 | .Point,h=>⟨h.1,h.2.1⟩
 | .Zone,h=>⟨h.1,h.2.1,h.2.2.1⟩
 | .Rule,h=>⟨h.1,h.2.1,h.2.2.1,h.2.2.2.1,h.2.2.2.2.1,h.2.2.2.2.2.1,h.2.2.2.2.2.2.1,h.2.2.2.2.2.2.2.1,h.2.2.2.2.2.2.2.2.1,h.2.2.2.2.2.2.2.2.2.1,h.2.2.2.2.2.2.2.2.2.2.1,h.2.2.2.2.2.2.2.2.2.2.2.1,h.2.2.2.2.2.2.2.2.2.2.2.2.1,h.2.2.2.2.2.2.2.2.2.2.2.2.2.1,h.2.2.2.2.2.2.2.2.2.2.2.2.2.2.1,h.2.2.2.2.2.2.2.2.2.2.2.2.2.2.2.1,h.2.2.2.2.2.2.2.2.2.2.2.2.2.2.2.2.1,h.2.2.2.2.2.2.2.2.2.2.2.2.2.2.2.2.2.1,h.2.2.2.2.2.2.2.2.2.2.2.2.2.2.2.2.2.2.1,h.2.2.2.2.2.2.2.2.2.2.2.2.2.2.2.2.2.2.2.1⟩
 | .Cap,h=>⟨h.1,h.2.1,h.2.2.1,h.2.2.2.1⟩
 | .Point3,h=>⟨h.1,h.2.1,h.2.2.1⟩
 | .View,h=>⟨h.1,h.2.1,h.2.2.1,h.2.2.2.1,h.2.2.2.2.1,h.2.2.2.2.2.1⟩
 | .site,h=>⟨h.1,h.2.1,h.2.2.1,h.2.2.2.1,h.2.2.2.2.1,h.2.2.2.2.2.1,h.2.2.2.2.2.2.1,h.2.2.2.2.2.2.2.1,h.2.2.2.2.2.2.2.2.1,h.2.2.2.2.2.2.2.2.2.1⟩
 | .A6_str,h=>⟨h.1,h.2.1,h.2.2.1,h.2.2.2.1,h.2.2.2.2.1,h.2.2.2.2.2.1⟩
 | .Plan,h=>⟨h.1,h.2.1,h.2.2.1,h.2.2.2.1,h.2.2.2.2.1,h.2.2.2.2.2.1,h.2.2.2.2.2.2.1,h.2.2.2.2.2.2.2.1⟩
 | .Easement,h=>⟨h.1,h.2.1,h.2.2.1⟩
 | .Window,h=>⟨h.1,h.2.1,h.2.2.1,h.2.2.2.1⟩
 | .Placed,h=>⟨h.1,h.2.1,h.2.2.1,h.2.2.2.1,h.2.2.2.2.1,h.2.2.2.2.2.1,h.2.2.2.2.2.2.1,h.2.2.2.2.2.2.2.1,h.2.2.2.2.2.2.2.2.1,h.2.2.2.2.2.2.2.2.2.1⟩
 | .Town,h=>⟨h.1,h.2.1,h.2.2.1,h.2.2.2.1,h.2.2.2.2.1,h.2.2.2.2.2.1,h.2.2.2.2.2.2.1,h.2.2.2.2.2.2.2.1,h.2.2.2.2.2.2.2.2.1,h.2.2.2.2.2.2.2.2.2.1,h.2.2.2.2.2.2.2.2.2.2.1,h.2.2.2.2.2.2.2.2.2.2.2.1,h.2.2.2.2.2.2.2.2.2.2.2.2.1⟩
 | .A12_i64,h=>⟨Zx se (.int .i64) 12 h,Pd se _ _ h⟩
 | .Case,h=>⟨h.1,h.2.1,h.2.2.1⟩
 | .Ask,h=>⟨h.1,h.2.1,h.2.2.1⟩
 | .A12_bool,h=>⟨Zx se .bool 12 h,Pd se _ _ h⟩
def arS:TypeId->Option (Arr se)
 | 132=>some ⟨SI.A12_bool,.bool,fun x=>x.l,Jk⟩
 | 133=>some ⟨SI.A144_bool,.bool,fun x=>x.l,bC⟩
 | 134=>some ⟨SI.A144_bool,.bool,fun x=>x.l,bC⟩
 | 253=>some ⟨SI.A12_i64,(.int .i64),fun x=>x.l,rR⟩
 |_=>none
theorem agf:∀ t a,arS t=some a->a.c.one=true∧(∀ x,agV a.i x=((a.f x).map (CT.row se a.c)).flatten)∧∀ l x,a.g l=some x->a.f x=l:=by
 intro t a h;unfold arS at h;split at h
 ·injection h with h;subst h;refine⟨rfl,fun x=>FZ se .bool (fun y=> .sc (.bool y)) (fun _=>rfl) x.l,fun l x hl=>?_⟩
  replace hl:Jk l=some x:=hl
  unfold Jk at hl;split at hl
  ·injection hl with hl;subst hl;rfl
  ·cases hl
 ·injection h with h;subst h;refine⟨rfl,fun x=>FZ se .bool (fun y=> .sc (.bool y)) (fun _=>rfl) x.l,fun l x hl=>?_⟩
  replace hl:bC l=some x:=hl
  unfold bC at hl;split at hl
  ·injection hl with hl;subst hl;rfl
  ·cases hl
 ·injection h with h;subst h;refine⟨rfl,fun x=>FZ se .bool (fun y=> .sc (.bool y)) (fun _=>rfl) x.l,fun l x hl=>?_⟩
  replace hl:bC l=some x:=hl
  unfold bC at hl;split at hl
  ·injection hl with hl;subst hl;rfl
  ·cases hl
 ·injection h with h;subst h;refine⟨rfl,fun x=>FZ se (.int .i64) (fun y=> .sc (.int .i64 y)) (fun _=>rfl) x.l,fun l x hl=>?_⟩
  replace hl:rR l=some x:=hl
  unfold rR at hl;split at hl
  ·injection hl with hl;subst hl;rfl
  ·cases hl
 ·cases h
def gvS:Nat->Option ((c:CT SI)×CT.T se c):=fun _=>none
def xx:SX:={ toSE:=se,tys:=agc,get:=ag9,make:=agW,row_get:=by intro i x;cases i;(case A144_bool=>exact Pe se .bool (fun y=> .sc (.bool y)) (fun _=>rfl) _ _ _);(case A12_i64=>exact Pe se (.int .i64) (fun y=> .sc (.int .i64 y)) (fun _=>rfl) _ _ _);(case A12_bool=>exact Pe se .bool (fun y=> .sc (.bool y)) (fun _=>rfl) _ _ _);all_goals first |rfl |exact Rz _,row_make:=by intro i h;cases i;(case A144_bool=>exact J9 se .bool (fun y=> .sc (.bool y)) (fun _=>rfl) _ _);(case A12_i64=>exact J9 se (.int .i64) (fun y=> .sc (.int .i64 y)) (fun _=>rfl) _ _);(case A12_bool=>exact J9 se .bool (fun y=> .sc (.bool y)) (fun _=>rfl) _ _);all_goals first |rfl |exact Rz _,flat:=by intro i;cases i<;>rfl,gv:=gvS,gv_ok:=fun _=>rfl,ar:=arS,ar_ok:=agf }
def tab:List (TypeId×TyI):=[
 (3,⟨1,8,false,[.int .i64 0],.int .i64,[]⟩),
 (4,⟨1,1,false,[.bool false],.bool,[]⟩),
 (5,⟨1,1,false,[.int .u8 0],.int .u8,[]⟩),
 (9,⟨1,16,false,[.string ⟨#[]⟩],.str,[]⟩),
 (22,⟨1,24,false,[.slice none 0 0],.slice 305,[]⟩),
 (23,⟨1,24,false,[.slice none 0 0],.slice 232,[]⟩),
 (24,⟨1,24,false,[.slice none 0 0],.slice 308,[]⟩),
 (25,⟨1,24,false,[.slice none 0 0],.slice 96,[]⟩),
 (26,⟨1,24,false,[.slice none 0 0],.slice 310,[]⟩),
 (27,⟨1,24,false,[.slice none 0 0],.slice 314,[]⟩),
 (28,⟨1,24,false,[.slice none 0 0],.slice 312,[]⟩),
 (30,⟨8,176,true,[.slice none 0 0,.slice none 0 0,.slice none 0 0,.slice none 0 0,.slice none 0 0,.slice none 0 0,.slice none 0 0,.int .i64 0],.struct [(0,22),(1,23),(2,24),(3,25),(4,26),(5,27),(6,28),(7,3)],[]⟩),
 (31,⟨1,24,false,[.slice none 0 0],.slice 64,[]⟩),
 (32,⟨1,24,false,[.slice none 0 0],.slice 143,[]⟩),
 (33,⟨1,24,false,[.slice none 0 0],.slice 316,[]⟩),
 (34,⟨1,24,false,[.slice none 0 0],.slice 318,[]⟩),
 (35,⟨1,24,false,[.slice none 0 0],.slice 113,[]⟩),
 (37,⟨13,296,true,[.slice none 0 0,.slice none 0 0,.slice none 0 0,.slice none 0 0,.slice none 0 0,.slice none 0 0,.slice none 0 0,.int .i64 0,.slice none 0 0,.slice none 0 0,.slice none 0 0,.slice none 0 0,.slice none 0 0],.struct [(0,30),(8,31),(9,32),(10,33),(11,34),(12,35)],[]⟩),
 (38,⟨1,24,false,[.slice none 0 0],.slice 89,[]⟩),
 (40,⟨2,32,true,[.int .i64 0,.slice none 0 0],.struct [(0,3),(1,38)],[]⟩),
 (41,⟨1,24,false,[.slice none 0 0],.slice 9,[]⟩),
 (42,⟨1,24,false,[.slice none 0 0],.slice 79,[]⟩),
 (43,⟨1,24,false,[.slice none 0 0],.slice 72,[]⟩),
 (44,⟨1,24,false,[.slice none 0 0],.slice 3,[]⟩),
 (46,⟨3,40,true,[.int .i64 0,.slice none 0 0,.bool false],.struct [(0,3),(1,44),(2,4)],[]⟩),
 (62,⟨1,24,false,[.slice none 0 0],.slice 82,[]⟩),
 (64,⟨4,64,true,[.int .i64 0,.int .i64 0,.slice none 0 0,.slice none 0 0],.struct [(0,3),(1,3),(2,62),(3,44)],[]⟩),
 (72,⟨3,40,true,[.int .i64 0,.slice none 0 0,.bool false],.struct [(0,3),(1,44),(2,4)],[]⟩),
 (77,⟨1,24,false,[.slice none 0 0],.slice 141,[]⟩),
 (79,⟨2,32,true,[.int .i64 0,.slice none 0 0],.struct [(0,3),(1,77)],[]⟩),
 (82,⟨4,32,true,[.int .i64 0,.int .i64 0,.int .i64 0,.int .i64 0],.struct [(0,3),(1,3),(2,3),(3,3)],[0,0,0,0]⟩),
 (84,⟨6,48,true,[.int .i64 0,.int .i64 0,.int .i64 0,.int .i64 0,.int .i64 0,.int .i64 0],.struct [(0,82),(4,3),(5,3)],[]⟩),
 (86,⟨9,72,true,[.int .i64 0,.int .i64 0,.int .i64 0,.int .i64 0,.int .i64 0,.int .i64 0,.int .i64 0,.int .i64 0,.bool false],.struct [(0,84),(6,3),(7,3),(8,4)],[]⟩),
 (87,⟨1,24,false,[.slice none 0 0],.slice 86,[]⟩),
 (89,⟨2,48,true,[.slice none 0 0,.slice none 0 0],.struct [(0,87),(1,35)],[]⟩),
 (90,⟨1,24,false,[.slice none 0 0],.slice 92,[]⟩),
 (92,⟨5,72,true,[.int .i64 0,.int .i64 0,.string ⟨#[]⟩,.string ⟨#[]⟩,.slice none 0 0],.struct [(0,3),(1,3),(2,9),(3,9),(4,90)],[]⟩),
 (94,⟨4,32,true,[.int .i64 0,.int .i64 0,.int .i64 0,.int .i64 0],.struct [(0,3),(1,3),(2,3),(3,3)],[0,0,0,0]⟩),
 (96,⟨20,232,true,[.string ⟨#[]⟩,.slice none 0 0,.slice none 0 0,.int .i64 0,.int .i64 0,.int .i64 0,.bool false,.int .i64 0,.int .i64 0,.int .i64 0,.string ⟨#[]⟩,.string ⟨#[]⟩,.slice none 0 0,.int .i64 0,.int .i64 0,.int .i64 0,.int .i64 0,.int .i64 0,.int .i64 0,.int .i64 0],.struct [(0,9),(1,41),(2,41),(3,3),(4,3),(5,3),(6,4),(7,3),(8,92),(13,94),(17,3),(18,3),(19,3)],[]⟩),
 (107,⟨1,8,false,[.nilFunc],.other,[]⟩),
 (109,⟨4,32,true,[.nilFunc,.nilFunc,.nilFunc,.nilFunc],.arr 4 107,[]⟩),
 (113,⟨2,24,true,[.string ⟨#[]⟩,.int .i64 0],.struct [(0,9),(1,3)],[2,0]⟩),
 (114,⟨1,8,false,[.nilFunc],.other,[]⟩),
 (121,⟨1,24,false,[.slice none 0 0],.slice 170,[]⟩),
 (128,⟨1,24,false,[.slice none 0 0],.slice 62,[]⟩),
 (132,⟨12,12,true,[.bool false,.bool false,.bool false,.bool false,.bool false,.bool false,.bool false,.bool false,.bool false,.bool false,.bool false,.bool false],.arr 12 4,[9]⟩),
 (134,⟨144,144,true,[.bool false,.bool false,.bool false,.bool false,.bool false,.bool false,.bool false,.bool false,.bool false,.bool false,.bool false,.bool false,.bool false,.bool false,.bool false,.bool false,.bool false,.bool false,.bool false,.bool false,.bool false,.bool false,.bool false,.bool false,.bool false,.bool false,.bool false,.bool false,.bool false,.bool false,.bool false,.bool false,.bool false,.bool false,.bool false,.bool false,.bool false,.bool false,.bool false,.bool false,.bool false,.bool false,.bool false,.bool false,.bool false,.bool false,.bool false,.bool false,.bool false,.bool false,.bool false,.bool false,.bool false,.bool false,.bool false,.bool false,.bool false,.bool false,.bool false,.bool false,.bool false,.bool false,.bool false,.bool false,.bool false,.bool false,.bool false,.bool false,.bool false,.bool false,.bool false,.bool false,.bool false,.bool false,.bool false,.bool false,.bool false,.bool false,.bool false,.bool false,.bool false,.bool false,.bool false,.bool false,.bool false,.bool false,.bool false,.bool false,.bool false,.bool false,.bool false,.bool false,.bool false,.bool false,.bool false,.bool false,.bool false,.bool false,.bool false,.bool false,.bool false,.bool false,.bool false,.bool false,.bool false,.bool false,.bool false,.bool false,.bool false,.bool false,.bool false,.bool false,.bool false,.bool false,.bool false,.bool false,.bool false,.bool false,.bool false,.bool false,.bool false,.bool false,.bool false,.bool false,.bool false,.bool false,.bool false,.bool false,.bool false,.bool false,.bool false,.bool false,.bool false,.bool false,.bool false,.bool false,.bool false,.bool false,.bool false,.bool false,.bool false,.bool false,.bool false,.bool false],.arr 12 132,[9]⟩),
 (141,⟨2,16,true,[.int .i64 0,.int .i64 0],.arr 2 3,[]⟩),
 (143,⟨3,40,true,[.int .i64 0,.slice none 0 0,.int .i64 0],.struct [(0,3),(1,62),(2,3)],[]⟩),
 (169,⟨1,8,false,[.map none],.map 3 4,[]⟩),
 (170,⟨1,24,false,[.slice none 0 0],.slice 181,[]⟩),
 (171,⟨1,8,false,[.map none],.map 4 4,[]⟩),
 (177,⟨1,8,false,[.int .u64 0],.int .u64,[]⟩),
 (181,⟨1,24,false,[.slice none 0 0],.slice 4,[]⟩),
 (185,⟨1,8,false,[.pointer none],.other,[]⟩),
 (187,⟨10,224,true,[.slice none 0 0,.slice none 0 0,.slice none 0 0,.slice none 0 0,.slice none 0 0,.slice none 0 0,.slice none 0 0,.int .i64 0,.slice none 0 0,.slice none 0 0],.struct [(0,30),(8,62),(9,87)],[]⟩),
 (190,⟨1,8,false,[.nilFunc],.other,[]⟩),
 (191,⟨2,24,true,[.string ⟨#[]⟩,.nilFunc],.struct [(0,9),(1,190)],[]⟩),
 (192,⟨18,216,true,[.string ⟨#[]⟩,.nilFunc,.string ⟨#[]⟩,.nilFunc,.string ⟨#[]⟩,.nilFunc,.string ⟨#[]⟩,.nilFunc,.string ⟨#[]⟩,.nilFunc,.string ⟨#[]⟩,.nilFunc,.string ⟨#[]⟩,.nilFunc,.string ⟨#[]⟩,.nilFunc,.string ⟨#[]⟩,.nilFunc],.arr 9 191,[]⟩),
 (216,⟨1,4,false,[.int .u32 0],.int .u32,[]⟩),
 (218,⟨1,8,false,[.int .u64 0],.int .u64,[]⟩),
 (232,⟨3,48,true,[.string ⟨#[]⟩,.slice none 0 0,.int .i64 0],.struct [(0,9),(1,35),(2,3)],[]⟩),
 (238,⟨1,24,false,[.slice none 0 0],.slice 260,[]⟩),
 (240,⟨1,8,false,[.int .u64 0],.int .u64,[]⟩),
 (253,⟨12,96,true,[.int .i64 0,.int .i64 0,.int .i64 0,.int .i64 0,.int .i64 0,.int .i64 0,.int .i64 0,.int .i64 0,.int .i64 0,.int .i64 0,.int .i64 0,.int .i64 0],.arr 12 3,[]⟩),
 (256,⟨1,24,false,[.slice none 0 0],.slice 258,[]⟩),
 (258,⟨2,16,true,[.int .i64 0,.int .i64 0],.struct [(0,3),(1,3)],[0,0]⟩),
 (260,⟨3,40,true,[.int .i64 0,.int .i64 0,.slice none 0 0],.struct [(0,3),(1,3),(2,256)],[]⟩),
 (272,⟨6,96,true,[.string ⟨#[]⟩,.string ⟨#[]⟩,.string ⟨#[]⟩,.string ⟨#[]⟩,.string ⟨#[]⟩,.string ⟨#[]⟩],.arr 6 9,[]⟩),
 (305,⟨6,88,true,[.string ⟨#[]⟩,.int .i64 0,.int .i64 0,.string ⟨#[]⟩,.string ⟨#[]⟩,.slice none 0 0],.struct [(0,9),(1,92)],[]⟩),
 (306,⟨1,24,false,[.slice none 0 0],.slice 321,[]⟩),
 (308,⟨3,48,true,[.string ⟨#[]⟩,.bool false,.slice none 0 0],.struct [(0,9),(1,4),(2,306)],[]⟩),
 (310,⟨4,56,true,[.string ⟨#[]⟩,.int .i64 0,.int .i64 0,.slice none 0 0],.struct [(0,9),(1,3),(2,3),(3,306)],[]⟩),
 (312,⟨3,24,true,[.int .i64 0,.int .i64 0,.int .i64 0],.struct [(0,3),(1,3),(2,3)],[0,0,0]⟩),
 (314,⟨6,72,true,[.string ⟨#[]⟩,.int .i64 0,.int .i64 0,.int .i64 0,.int .i64 0,.slice none 0 0],.struct [(0,9),(1,312),(4,3),(5,28)],[]⟩),
 (316,⟨4,32,true,[.int .i64 0,.int .i64 0,.int .i64 0,.int .i64 0],.struct [(0,3),(1,312)],[]⟩),
 (318,⟨10,80,true,[.int .i64 0,.int .i64 0,.int .i64 0,.int .i64 0,.int .i64 0,.int .i64 0,.int .i64 0,.int .i64 0,.int .i64 0,.bool false],.struct [(0,3),(1,86)],[]⟩),
 (321,⟨2,16,true,[.int .i64 0,.int .i64 0],.struct [(0,3),(1,3)],[0,0]⟩)]
def agX:List (TypeId×CT SI):=[(3,(.int .i64)),(4,.bool),(9,.str),(44,(.sl (.int .i64))),(62,(.sl (.st SI.Rect))),(64,(.st SI.Lot)),(72,(.st SI.Case)),(79,(.st SI.Order)),(82,(.st SI.Rect)),(86,(.st SI.Volume)),(89,(.st SI.Phase)),(96,(.st SI.Rule)),(113,(.st SI.Entry)),(141,(.st SI.A2_i64)),(170,(.sl (.sl .bool))),(181,(.sl .bool)),(258,(.st SI.span)),(260,(.st SI.strip))]
def afK:TypeId->Option (CT xx.ι):=lk agX
theorem afL:cO Tryz.prog (Qt tab):=adj (by kernel_rfl)
theorem mixed:Tryz.prog.follows .mixedOrders=true:=Checked.mixed Tryz.checked
theorem cq {f:FuncId} {fn:Func} {l:List (FuncId×Sig xx)} (hΓ:GOk Tryz.prog (gam l)) (hfn:Tryz.prog.funcs[f]? =some fn) {s:Sig xx} (h:Hn SI) (n:Nat)
 (hq : (fn.body.isSome && !(fn.name == "runtime.NumGoroutine") && decide (s.args.length <= fn.ntmps ∧ nu s.args <= 1000 ∧ (s.res.filter RT.out).length = nu s.args)) = true) (hg : s.gen = none)
 (hr:∀ a,run (gam l) (Qt tab) afK fn.ntmps n (fn.body.getD .skip) (pG xx s.res) h (ini s.args a) (agO (Qt tab) fn.results.toList s.res)=s.fn a):COk Tryz.prog f s:=by
 rw[and_eq_true,and_eq_true]at hq;obtain⟨⟨q1,q2⟩,q3⟩:=hq;have hb:fn.body=some (fn.body.getD .skip):=by
  cases hc:fn.body with
  |none=>rw[hc]at q1;cases q1
  |some c=>rfl
 have hn : (fn.name == "runtime.NumGoroutine") = false := by simpa using q2
 exact cok (jT hfn hb hn) (fun a _ e=>agP afL mixed hΓ hfn hb hn _ _ (of_decide_eq_true q3) h n ((hr a).trans e)) hg
theorem cqG {f:FuncId} {fn:Func} {l:List (FuncId×Sig xx)} (hΓ:GOk Tryz.prog (gam l)) (hfn:Tryz.prog.funcs[f]? =some fn) {g:GSig xx} (h:Hn SI) (n:Nat)
 (hq : (fn.body.isSome && !(fn.name == "runtime.NumGoroutine") && decide (g.inP.length <= fn.ntmps) && g.inOk) = true)
 (hr:∀ v,run (gam l) (Qt tab) afK fn.ntmps n (fn.body.getD .skip) (VT (X:=xx) (zX g).vars) h (acn g v) (afG (Qt tab) fn.results.toList g)=g.fn v):COk Tryz.prog f ⟨[],[.d .bool],fun _=>none,some g⟩:=by
 rw[and_eq_true,and_eq_true,and_eq_true]at hq;obtain⟨⟨⟨q1,q2⟩,q3⟩,q4⟩:=hq;have hb:fn.body=some (fn.body.getD .skip):=by
  cases hc:fn.body with
  |none=>rw[hc]at q1;cases q1
  |some c=>rfl
 have hn : (fn.name == "runtime.NumGoroutine") = false := by simpa using q2
 exact agQ (jT hfn hb hn) (af7 afL mixed hΓ hfn hb hn g (of_decide_eq_true q3) q4 h n (fun v _ e=>(hr v).trans e))
theorem gcn:GOk Tryz.prog (gam ([]:List (FuncId×Sig xx))):=ax
abbrev ah:CT SI:=.int .i64
abbrev dN:CT SI:=.st SI.Order
abbrev ak:CT SI:=.st SI.Rect
abbrev aG:CT SI:=.st SI.Volume
abbrev aW:CT SI:=.st SI.Def
abbrev aO:CT SI:=.st SI.Table
abbrev aQ:CT SI:=.st SI.Zone
abbrev aN:CT SI:=.st SI.Rule
abbrev aX:CT SI:=.st SI.Cap
abbrev aM:CT SI:=.st SI.Point3
abbrev aR:CT SI:=.st SI.View
abbrev bn:CT SI:=.st SI.Case
abbrev aF (f:Nat) (s:Sig xx):Prop:=COk Tryz.prog f s
end Go.Proofs
