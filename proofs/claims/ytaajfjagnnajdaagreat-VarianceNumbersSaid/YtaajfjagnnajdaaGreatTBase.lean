/-
  Printed by wip/gen: what functions of the program compute, and that they do.
-/
import Derived.Test.YtaajfjagnnajdaaGreatSeq
import Derived.Test.YtaajfjagnnajdaaGreatChecked
open Bool (and_eq_true)
namespace Go.Proofs
open Go.Gb Go.RowKit
structure kD where
 a0:Int
 a1:Int
 deriving DecidableEq,Inhabited
def Vo (x:kD):List Tree:=[.sc (.int .i64 x.a0),.sc (.int .i64 x.a1)]
structure aY where
 values:Int
 pairs:(List kD)
 deriving DecidableEq,Inhabited
def aeu (x:aY):List Tree:=[.sc (.int .i64 x.values),.sl (x.pairs.map Vo)]
structure bH where
 l:List Bool
 h:l.length=144
 deriving DecidableEq
def WW (x:bH):List Tree:=x.l.map fun y=> .sc (.bool y)
def bA (l:List Bool):Option bH:=if h:l.length=144 then some ⟨l,h⟩else none
structure au where
 x0:Int
 y0:Int
 x1:Int
 y1:Int
 deriving DecidableEq,Inhabited
def PE (x:au):List Tree:=[.sc (.int .i64 x.x0),.sc (.int .i64 x.y0),.sc (.int .i64 x.x1),.sc (.int .i64 x.y1)]
structure iO where
 id:Int
 owner:Int
 area:(List au)
 from_:(List Int)
 deriving DecidableEq,Inhabited
def aaz (x:iO):List Tree:=[.sc (.int .i64 x.id),.sc (.int .i64 x.owner),.sl (x.area.map PE),.sl (x.from_.map (fun y=>[.sc (.int .i64 y)]))]
structure aF where
 from_:Int
 to:Int
 deriving DecidableEq,Inhabited
def abN (x:aF):List Tree:=[.sc (.int .i64 x.from_),.sc (.int .i64 x.to)]
structure dL where
 x0:Int
 x1:Int
 column:(List aF)
 deriving DecidableEq,Inhabited
def aev (x:dL):List Tree:=[.sc (.int .i64 x.x0),.sc (.int .i64 x.x1),.sl (x.column.map abN)]
structure aB where
 box_base_x0:Int
 box_base_y0:Int
 box_base_x1:Int
 box_base_y1:Int
 box_z0:Int
 box_z1:Int
 use:Int
 units:Int
 extra:Bool
 deriving DecidableEq,Inhabited
def MR (x:aB):List Tree:=[.sc (.int .i64 x.box_base_x0),.sc (.int .i64 x.box_base_y0),.sc (.int .i64 x.box_base_x1),.sc (.int .i64 x.box_base_y1),.sc (.int .i64 x.box_z0),.sc (.int .i64 x.box_z1),.sc (.int .i64 x.use),.sc (.int .i64 x.units),.sc (.bool x.extra)]
structure bn where
 name:ByteArray
 n:Int
 deriving DecidableEq,Inhabited
def Gv (x:bn):List Tree:=[.sc (.string x.name),.sc (.int .i64 x.n)]
structure uX where
 volumes:(List aB)
 gives:(List bn)
 deriving DecidableEq,Inhabited
def RZ (x:uX):List Tree:=[.sl (x.volumes.map MR),.sl (x.gives.map Gv)]
structure GDrawing where
 lot:Int
 phases:(List uX)
 deriving DecidableEq,Inhabited
def Jr (x:GDrawing):List Tree:=[.sc (.int .i64 x.lot),.sl (x.phases.map RZ)]
structure Ov where
 op:Int
 n:Int
 s:ByteArray
 key:ByteArray
 args:(List Ov)
mutual
def z8:Ov->List Tree
 |⟨f0,f1,f2,f3,f4⟩=>[.sc (.int .i64 f0),.sc (.int .i64 f1),.sc (.string f2),.sc (.string f3),.sl (KU f4)]
def KU:List Ov->List (List Tree)
 |[]=>[]
 |x::xs=>z8 x::KU xs
end
theorem KV:∀ l:List Ov,KU l=l.map z8
 |[]=>rfl
 |x::xs=>by rw[KU,KV xs];rfl
theorem R4 (x:Ov):z8 x=[.sc (.int .i64 x.op),.sc (.int .i64 x.n),.sc (.string x.s),.sc (.string x.key),.sl (x.args.map z8)]:=by cases x;simp only[z8,KV]
structure eu where
 name:ByteArray
 body_op:Int
 body_n:Int
 body_s:ByteArray
 body_key:ByteArray
 body_args:(List Ov)
def WX (x:eu):List Tree:=[.sc (.string x.name),.sc (.int .i64 x.body_op),.sc (.int .i64 x.body_n),.sc (.string x.body_s),.sc (.string x.body_key),.sl (x.body_args.map z8)]
structure bf where
 name:ByteArray
 rows:(List bn)
 else_:Int
 deriving DecidableEq,Inhabited
def Gw (x:bf):List Tree:=[.sc (.string x.name),.sl (x.rows.map Gv),.sc (.int .i64 x.else_)]
structure WY where
 x:Int
 y:Int
 deriving DecidableEq,Inhabited
def R5 (x:WY):List Tree:=[.sc (.int .i64 x.x),.sc (.int .i64 x.y)]
structure bT where
 name:ByteArray
 overlay:Bool
 corners:(List WY)
 deriving DecidableEq,Inhabited
def PG (x:bT):List Tree:=[.sc (.string x.name),.sc (.bool x.overlay),.sl (x.corners.map R5)]
structure aX where
 name:ByteArray
 zones:(List ByteArray)
 except:(List ByteArray)
 from_:Int
 until_:Int
 grace:Int
 vary:Bool
 kind:Int
 test_op:Int
 test_n:Int
 test_s:ByteArray
 test_key:ByteArray
 test_args:(List Ov)
 plane_side:Int
 plane_base:Int
 plane_num:Int
 plane_den:Int
 uses:Int
 other:Int
 n:Int
def PI (x:aX):List Tree:=[.sc (.string x.name),.sl (x.zones.map (fun y=>[.sc (.string y)])),.sl (x.except.map (fun y=>[.sc (.string y)])),.sc (.int .i64 x.from_),.sc (.int .i64 x.until_),.sc (.int .i64 x.grace),.sc (.bool x.vary),.sc (.int .i64 x.kind),.sc (.int .i64 x.test_op),.sc (.int .i64 x.test_n),.sc (.string x.test_s),.sc (.string x.test_key),.sl (x.test_args.map z8),.sc (.int .i64 x.plane_side),.sc (.int .i64 x.plane_base),.sc (.int .i64 x.plane_num),.sc (.int .i64 x.plane_den),.sc (.int .i64 x.uses),.sc (.int .i64 x.other),.sc (.int .i64 x.n)]
structure eD where
 name:ByteArray
 load:Int
 limit:Int
 corners:(List WY)
 deriving DecidableEq,Inhabited
def WZ (x:eD):List Tree:=[.sc (.string x.name),.sc (.int .i64 x.load),.sc (.int .i64 x.limit),.sl (x.corners.map R5)]
structure aU where
 x:Int
 y:Int
 z:Int
 deriving DecidableEq,Inhabited
def BU (x:aU):List Tree:=[.sc (.int .i64 x.x),.sc (.int .i64 x.y),.sc (.int .i64 x.z)]
structure bU where
 name:ByteArray
 eye_x:Int
 eye_y:Int
 eye_z:Int
 least:Int
 targets:(List aU)
 deriving DecidableEq,Inhabited
def PK (x:bU):List Tree:=[.sc (.string x.name),.sc (.int .i64 x.eye_x),.sc (.int .i64 x.eye_y),.sc (.int .i64 x.eye_z),.sc (.int .i64 x.least),.sl (x.targets.map BU)]
structure agk where
 plan_defs:(List eu)
 plan_tables:(List bf)
 plan_zones:(List bT)
 plan_rules:(List aX)
 plan_caps:(List eD)
 plan_views:(List bU)
 plan_sun:(List aU)
 plan_hours:Int
 area:(List au)
 volumes:(List aB)
def afC (x:agk):List Tree:=[.sl (x.plan_defs.map WX),.sl (x.plan_tables.map Gw),.sl (x.plan_zones.map PG),.sl (x.plan_rules.map PI),.sl (x.plan_caps.map WZ),.sl (x.plan_views.map PK),.sl (x.plan_sun.map BU),.sc (.int .i64 x.plan_hours),.sl (x.area.map PE),.sl (x.volumes.map MR)]
structure HV where
 a0:ByteArray
 a1:ByteArray
 a2:ByteArray
 a3:ByteArray
 a4:ByteArray
 a5:ByteArray
 deriving DecidableEq,Inhabited
def acY (x:HV):List Tree:=[.sc (.string x.a0),.sc (.string x.a1),.sc (.string x.a2),.sc (.string x.a3),.sc (.string x.a4),.sc (.string x.a5)]
structure lX where
 defs:(List eu)
 tables:(List bf)
 zones:(List bT)
 rules:(List aX)
 caps:(List eD)
 views:(List bU)
 sun:(List aU)
 hours:Int
def afD (x:lX):List Tree:=[.sl (x.defs.map WX),.sl (x.tables.map Gw),.sl (x.zones.map PG),.sl (x.rules.map PI),.sl (x.caps.map WZ),.sl (x.views.map PK),.sl (x.sun.map BU),.sc (.int .i64 x.hours)]
structure HY where
 lot:Int
 area:(List au)
 top:Int
 deriving DecidableEq,Inhabited
def Ow (x:HY):List Tree:=[.sc (.int .i64 x.lot),.sl (x.area.map PE),.sc (.int .i64 x.top)]
structure W9 where
 lot:Int
 at_x:Int
 at_y:Int
 at_z:Int
 deriving DecidableEq,Inhabited
def Vp (x:W9):List Tree:=[.sc (.int .i64 x.lot),.sc (.int .i64 x.at_x),.sc (.int .i64 x.at_y),.sc (.int .i64 x.at_z)]
structure Xa where
 lot:Int
 volume_box_base_x0:Int
 volume_box_base_y0:Int
 volume_box_base_x1:Int
 volume_box_base_y1:Int
 volume_box_z0:Int
 volume_box_z1:Int
 volume_use:Int
 volume_units:Int
 volume_extra:Bool
 deriving DecidableEq,Inhabited
def Vq (x:Xa):List Tree:=[.sc (.int .i64 x.lot),.sc (.int .i64 x.volume_box_base_x0),.sc (.int .i64 x.volume_box_base_y0),.sc (.int .i64 x.volume_box_base_x1),.sc (.int .i64 x.volume_box_base_y1),.sc (.int .i64 x.volume_box_z0),.sc (.int .i64 x.volume_box_z1),.sc (.int .i64 x.volume_use),.sc (.int .i64 x.volume_units),.sc (.bool x.volume_extra)]
structure gG where
 plan_defs:(List eu)
 plan_tables:(List bf)
 plan_zones:(List bT)
 plan_rules:(List aX)
 plan_caps:(List eD)
 plan_views:(List bU)
 plan_sun:(List aU)
 plan_hours:Int
 land:(List iO)
 easements:(List HY)
 windows:(List W9)
 built:(List Xa)
 base:(List bn)
def afE (x:gG):List Tree:=[.sl (x.plan_defs.map WX),.sl (x.plan_tables.map Gw),.sl (x.plan_zones.map PG),.sl (x.plan_rules.map PI),.sl (x.plan_caps.map WZ),.sl (x.plan_views.map PK),.sl (x.plan_sun.map BU),.sc (.int .i64 x.plan_hours),.sl (x.land.map aaz),.sl (x.easements.map Ow),.sl (x.windows.map Vp),.sl (x.built.map Vq),.sl (x.base.map Gv)]
structure ul where
 l:List Int
 h:l.length=12
 deriving DecidableEq
def aaA (x:ul):List Tree:=x.l.map fun y=> .sc (.int .i64 y)
def rX (l:List Int):Option ul:=if h:l.length=12 then some ⟨l,h⟩else none
structure aL where
 id:Int
 values:(List Int)
 grant:Bool
 deriving DecidableEq,Inhabited
def afF (x:aL):List Tree:=[.sc (.int .i64 x.id),.sl (x.values.map (fun y=>[.sc (.int .i64 y)])),.sc (.bool x.grant)]
structure Gx where
 id:Int
 holder:Int
 state:Int
 day:Int
 rule:Int
 drawings:(List GDrawing)
 choice:Int
 into:Int
 deriving DecidableEq,Inhabited
def aaB (x:Gx):List Tree:=[.sc (.int .i64 x.id),.sc (.int .i64 x.holder),.sc (.int .i64 x.state),.sc (.int .i64 x.day),.sc (.int .i64 x.rule),.sl (x.drawings.map Jr),.sc (.int .i64 x.choice),.sc (.int .i64 x.into)]
structure afG where
 kind:Int
 day:Int
 n:Int
 drawings:(List GDrawing)
 deriving DecidableEq,Inhabited
def agN (x:afG):List Tree:=[.sc (.int .i64 x.kind),.sc (.int .i64 x.day),.sc (.int .i64 x.n),.sl (x.drawings.map Jr)]
structure MS where
 l:List Bool
 h:l.length=12
 deriving DecidableEq
def YN (x:MS):List Tree:=x.l.map fun y=> .sc (.bool y)
def Js (l:List Bool):Option MS:=if h:l.length=12 then some ⟨l,h⟩else none
inductive SI where
 |A2_i64
 |Order
 |A144_bool
 |Rect
 |Lot
 |span
 |strip
 |Volume
 |Entry
 |Phase
 |Drawing
 |Expr
 |Def
 |Table
 |Point
 |Zone
 |Rule
 |Cap
 |Point3
 |View
 |site
 |A6_str
 |Plan
 |Easement
 |Window
 |Placed
 |Town
 |A12_i64
 |Case
 |Dossier
 |Act
 |A12_bool
 deriving DecidableEq
@[reducible] def TT:SI->Type
 | .A2_i64=>kD
 | .Order=>aY
 | .A144_bool=>bH
 | .Rect=>au
 | .Lot=>iO
 | .span=>aF
 | .strip=>dL
 | .Volume=>aB
 | .Entry=>bn
 | .Phase=>uX
 | .Drawing=>GDrawing
 | .Expr=>Ov
 | .Def=>eu
 | .Table=>bf
 | .Point=>WY
 | .Zone=>bT
 | .Rule=>aX
 | .Cap=>eD
 | .Point3=>aU
 | .View=>bU
 | .site=>agk
 | .A6_str=>HV
 | .Plan=>lX
 | .Easement=>HY
 | .Window=>W9
 | .Placed=>Xa
 | .Town=>gG
 | .A12_i64=>ul
 | .Case=>aL
 | .Dossier=>Gx
 | .Act=>afG
 | .A12_bool=>MS
def ahr:(i:SI)->TT i->List Tree
 | .A2_i64,x=>Vo x
 | .Order,x=>aeu x
 | .A144_bool,x=>WW x
 | .Rect,x=>PE x
 | .Lot,x=>aaz x
 | .span,x=>abN x
 | .strip,x=>aev x
 | .Volume,x=>MR x
 | .Entry,x=>Gv x
 | .Phase,x=>RZ x
 | .Drawing,x=>Jr x
 | .Expr,x=>z8 x
 | .Def,x=>WX x
 | .Table,x=>Gw x
 | .Point,x=>R5 x
 | .Zone,x=>PG x
 | .Rule,x=>PI x
 | .Cap,x=>WZ x
 | .Point3,x=>BU x
 | .View,x=>PK x
 | .site,x=>afC x
 | .A6_str,x=>acY x
 | .Plan,x=>afD x
 | .Easement,x=>Ow x
 | .Window,x=>Vp x
 | .Placed,x=>Vq x
 | .Town,x=>afE x
 | .A12_i64,x=>aaA x
 | .Case,x=>afF x
 | .Dossier,x=>aaB x
 | .Act,x=>agN x
 | .A12_bool,x=>YN x
def se:SE:=⟨SI,inferInstance,TT,ahr⟩
def agO:SI->List (CT SI)
 | .A2_i64=>[(.int .i64),(.int .i64)]
 | .Order=>[(.int .i64),(.sl (.st SI.A2_i64))]
 | .A144_bool=>List.replicate 144 .bool
 | .Rect=>[(.int .i64),(.int .i64),(.int .i64),(.int .i64)]
 | .Lot=>[(.int .i64),(.int .i64),(.sl (.st SI.Rect)),(.sl (.int .i64))]
 | .span=>[(.int .i64),(.int .i64)]
 | .strip=>[(.int .i64),(.int .i64),(.sl (.st SI.span))]
 | .Volume=>[(.int .i64),(.int .i64),(.int .i64),(.int .i64),(.int .i64),(.int .i64),(.int .i64),(.int .i64),.bool]
 | .Entry=>[.str,(.int .i64)]
 | .Phase=>[(.sl (.st SI.Volume)),(.sl (.st SI.Entry))]
 | .Drawing=>[(.int .i64),(.sl (.st SI.Phase))]
 | .Expr=>[(.int .i64),(.int .i64),.str,.str,(.sl (.st SI.Expr))]
 | .Def=>[.str,(.int .i64),(.int .i64),.str,.str,(.sl (.st SI.Expr))]
 | .Table=>[.str,(.sl (.st SI.Entry)),(.int .i64)]
 | .Point=>[(.int .i64),(.int .i64)]
 | .Zone=>[.str,.bool,(.sl (.st SI.Point))]
 | .Rule=>[.str,(.sl .str),(.sl .str),(.int .i64),(.int .i64),(.int .i64),.bool,(.int .i64),(.int .i64),(.int .i64),.str,.str,(.sl (.st SI.Expr)),(.int .i64),(.int .i64),(.int .i64),(.int .i64),(.int .i64),(.int .i64),(.int .i64)]
 | .Cap=>[.str,(.int .i64),(.int .i64),(.sl (.st SI.Point))]
 | .Point3=>[(.int .i64),(.int .i64),(.int .i64)]
 | .View=>[.str,(.int .i64),(.int .i64),(.int .i64),(.int .i64),(.sl (.st SI.Point3))]
 | .site=>[(.sl (.st SI.Def)),(.sl (.st SI.Table)),(.sl (.st SI.Zone)),(.sl (.st SI.Rule)),(.sl (.st SI.Cap)),(.sl (.st SI.View)),(.sl (.st SI.Point3)),(.int .i64),(.sl (.st SI.Rect)),(.sl (.st SI.Volume))]
 | .A6_str=>[.str,.str,.str,.str,.str,.str]
 | .Plan=>[(.sl (.st SI.Def)),(.sl (.st SI.Table)),(.sl (.st SI.Zone)),(.sl (.st SI.Rule)),(.sl (.st SI.Cap)),(.sl (.st SI.View)),(.sl (.st SI.Point3)),(.int .i64)]
 | .Easement=>[(.int .i64),(.sl (.st SI.Rect)),(.int .i64)]
 | .Window=>[(.int .i64),(.int .i64),(.int .i64),(.int .i64)]
 | .Placed=>[(.int .i64),(.int .i64),(.int .i64),(.int .i64),(.int .i64),(.int .i64),(.int .i64),(.int .i64),(.int .i64),.bool]
 | .Town=>[(.sl (.st SI.Def)),(.sl (.st SI.Table)),(.sl (.st SI.Zone)),(.sl (.st SI.Rule)),(.sl (.st SI.Cap)),(.sl (.st SI.View)),(.sl (.st SI.Point3)),(.int .i64),(.sl (.st SI.Lot)),(.sl (.st SI.Easement)),(.sl (.st SI.Window)),(.sl (.st SI.Placed)),(.sl (.st SI.Entry))]
 | .A12_i64=>List.replicate 12 (.int .i64)
 | .Case=>[(.int .i64),(.sl (.int .i64)),.bool]
 | .Dossier=>[(.int .i64),(.int .i64),(.int .i64),(.int .i64),(.int .i64),(.sl (.st SI.Drawing)),(.int .i64),(.int .i64)]
 | .Act=>[(.int .i64),(.int .i64),(.int .i64),(.sl (.st SI.Drawing))]
 | .A12_bool=>List.replicate 12 .bool
def ahI:(i:SI)->TT i->HL se (agO i)
 | .A2_i64,x=>(x.a0,x.a1,())
 | .Order,x=>(x.values,x.pairs,())
 | .A144_bool,x=>UH se .bool 144 x.l x.h
 | .Rect,x=>(x.x0,x.y0,x.x1,x.y1,())
 | .Lot,x=>(x.id,x.owner,x.area,x.from_,())
 | .span,x=>(x.from_,x.to,())
 | .strip,x=>(x.x0,x.x1,x.column,())
 | .Volume,x=>(x.box_base_x0,x.box_base_y0,x.box_base_x1,x.box_base_y1,x.box_z0,x.box_z1,x.use,x.units,x.extra,())
 | .Entry,x=>(x.name,x.n,())
 | .Phase,x=>(x.volumes,x.gives,())
 | .Drawing,x=>(x.lot,x.phases,())
 | .Expr,x=>(x.op,x.n,x.s,x.key,x.args,())
 | .Def,x=>(x.name,x.body_op,x.body_n,x.body_s,x.body_key,x.body_args,())
 | .Table,x=>(x.name,x.rows,x.else_,())
 | .Point,x=>(x.x,x.y,())
 | .Zone,x=>(x.name,x.overlay,x.corners,())
 | .Rule,x=>(x.name,x.zones,x.except,x.from_,x.until_,x.grace,x.vary,x.kind,x.test_op,x.test_n,x.test_s,x.test_key,x.test_args,x.plane_side,x.plane_base,x.plane_num,x.plane_den,x.uses,x.other,x.n,())
 | .Cap,x=>(x.name,x.load,x.limit,x.corners,())
 | .Point3,x=>(x.x,x.y,x.z,())
 | .View,x=>(x.name,x.eye_x,x.eye_y,x.eye_z,x.least,x.targets,())
 | .site,x=>(x.plan_defs,x.plan_tables,x.plan_zones,x.plan_rules,x.plan_caps,x.plan_views,x.plan_sun,x.plan_hours,x.area,x.volumes,())
 | .A6_str,x=>(x.a0,x.a1,x.a2,x.a3,x.a4,x.a5,())
 | .Plan,x=>(x.defs,x.tables,x.zones,x.rules,x.caps,x.views,x.sun,x.hours,())
 | .Easement,x=>(x.lot,x.area,x.top,())
 | .Window,x=>(x.lot,x.at_x,x.at_y,x.at_z,())
 | .Placed,x=>(x.lot,x.volume_box_base_x0,x.volume_box_base_y0,x.volume_box_base_x1,x.volume_box_base_y1,x.volume_box_z0,x.volume_box_z1,x.volume_use,x.volume_units,x.volume_extra,())
 | .Town,x=>(x.plan_defs,x.plan_tables,x.plan_zones,x.plan_rules,x.plan_caps,x.plan_views,x.plan_sun,x.plan_hours,x.land,x.easements,x.windows,x.built,x.base,())
 | .A12_i64,x=>UH se (.int .i64) 12 x.l x.h
 | .Case,x=>(x.id,x.values,x.grant,())
 | .Dossier,x=>(x.id,x.holder,x.state,x.day,x.rule,x.drawings,x.choice,x.into,())
 | .Act,x=>(x.kind,x.day,x.n,x.drawings,())
 | .A12_bool,x=>UH se .bool 12 x.l x.h
def ahs:(i:SI)->HL se (agO i)->TT i
 | .A2_i64,h=>⟨h.1,h.2.1⟩
 | .Order,h=>⟨h.1,h.2.1⟩
 | .A144_bool,h=>⟨ZP se .bool 144 h,Pw se _ _ h⟩
 | .Rect,h=>⟨h.1,h.2.1,h.2.2.1,h.2.2.2.1⟩
 | .Lot,h=>⟨h.1,h.2.1,h.2.2.1,h.2.2.2.1⟩
 | .span,h=>⟨h.1,h.2.1⟩
 | .strip,h=>⟨h.1,h.2.1,h.2.2.1⟩
 | .Volume,h=>⟨h.1,h.2.1,h.2.2.1,h.2.2.2.1,h.2.2.2.2.1,h.2.2.2.2.2.1,h.2.2.2.2.2.2.1,h.2.2.2.2.2.2.2.1,h.2.2.2.2.2.2.2.2.1⟩
 | .Entry,h=>⟨h.1,h.2.1⟩
 | .Phase,h=>⟨h.1,h.2.1⟩
 | .Drawing,h=>⟨h.1,h.2.1⟩
 | .Expr,h=>⟨h.1,h.2.1,h.2.2.1,h.2.2.2.1,h.2.2.2.2.1⟩
 | .Def,h=>⟨h.1,h.2.1,h.2.2.1,h.2.2.2.1,h.2.2.2.2.1,h.2.2.2.2.2.1⟩
 | .Table,h=>⟨h.1,h.2.1,h.2.2.1⟩
 | .Point,h=>⟨h.1,h.2.1⟩
 | .Zone,h=>⟨h.1,h.2.1,h.2.2.1⟩
 | .Rule,h=>⟨h.1,h.2.1,h.2.2.1,h.2.2.2.1,h.2.2.2.2.1,h.2.2.2.2.2.1,h.2.2.2.2.2.2.1,h.2.2.2.2.2.2.2.1,h.2.2.2.2.2.2.2.2.1,h.2.2.2.2.2.2.2.2.2.1,h.2.2.2.2.2.2.2.2.2.2.1,h.2.2.2.2.2.2.2.2.2.2.2.1,h.2.2.2.2.2.2.2.2.2.2.2.2.1,h.2.2.2.2.2.2.2.2.2.2.2.2.2.1,h.2.2.2.2.2.2.2.2.2.2.2.2.2.2.1,h.2.2.2.2.2.2.2.2.2.2.2.2.2.2.2.1,h.2.2.2.2.2.2.2.2.2.2.2.2.2.2.2.2.1,h.2.2.2.2.2.2.2.2.2.2.2.2.2.2.2.2.2.1,h.2.2.2.2.2.2.2.2.2.2.2.2.2.2.2.2.2.2.1,h.2.2.2.2.2.2.2.2.2.2.2.2.2.2.2.2.2.2.2.1⟩
 | .Cap,h=>⟨h.1,h.2.1,h.2.2.1,h.2.2.2.1⟩
 | .Point3,h=>⟨h.1,h.2.1,h.2.2.1⟩
 | .View,h=>⟨h.1,h.2.1,h.2.2.1,h.2.2.2.1,h.2.2.2.2.1,h.2.2.2.2.2.1⟩
 | .site,h=>⟨h.1,h.2.1,h.2.2.1,h.2.2.2.1,h.2.2.2.2.1,h.2.2.2.2.2.1,h.2.2.2.2.2.2.1,h.2.2.2.2.2.2.2.1,h.2.2.2.2.2.2.2.2.1,h.2.2.2.2.2.2.2.2.2.1⟩
 | .A6_str,h=>⟨h.1,h.2.1,h.2.2.1,h.2.2.2.1,h.2.2.2.2.1,h.2.2.2.2.2.1⟩
 | .Plan,h=>⟨h.1,h.2.1,h.2.2.1,h.2.2.2.1,h.2.2.2.2.1,h.2.2.2.2.2.1,h.2.2.2.2.2.2.1,h.2.2.2.2.2.2.2.1⟩
 | .Easement,h=>⟨h.1,h.2.1,h.2.2.1⟩
 | .Window,h=>⟨h.1,h.2.1,h.2.2.1,h.2.2.2.1⟩
 | .Placed,h=>⟨h.1,h.2.1,h.2.2.1,h.2.2.2.1,h.2.2.2.2.1,h.2.2.2.2.2.1,h.2.2.2.2.2.2.1,h.2.2.2.2.2.2.2.1,h.2.2.2.2.2.2.2.2.1,h.2.2.2.2.2.2.2.2.2.1⟩
 | .Town,h=>⟨h.1,h.2.1,h.2.2.1,h.2.2.2.1,h.2.2.2.2.1,h.2.2.2.2.2.1,h.2.2.2.2.2.2.1,h.2.2.2.2.2.2.2.1,h.2.2.2.2.2.2.2.2.1,h.2.2.2.2.2.2.2.2.2.1,h.2.2.2.2.2.2.2.2.2.2.1,h.2.2.2.2.2.2.2.2.2.2.2.1,h.2.2.2.2.2.2.2.2.2.2.2.2.1⟩
 | .A12_i64,h=>⟨ZP se (.int .i64) 12 h,Pw se _ _ h⟩
 | .Case,h=>⟨h.1,h.2.1,h.2.2.1⟩
 | .Dossier,h=>⟨h.1,h.2.1,h.2.2.1,h.2.2.2.1,h.2.2.2.2.1,h.2.2.2.2.2.1,h.2.2.2.2.2.2.1,h.2.2.2.2.2.2.2.1⟩
 | .Act,h=>⟨h.1,h.2.1,h.2.2.1,h.2.2.2.1⟩
 | .A12_bool,h=>⟨ZP se .bool 12 h,Pw se _ _ h⟩
def arS:TypeId->Option (Arr se)
 | 132=>some ⟨SI.A12_bool,.bool,fun x=>x.l,Js⟩
 | 133=>some ⟨SI.A144_bool,.bool,fun x=>x.l,bA⟩
 | 134=>some ⟨SI.A144_bool,.bool,fun x=>x.l,bA⟩
 | 253=>some ⟨SI.A12_i64,(.int .i64),fun x=>x.l,rX⟩
 |_=>none
theorem agP:∀ t a,arS t=some a->a.c.one=true∧(∀ x,ahr a.i x=((a.f x).map (CT.row se a.c)).flatten)∧∀ l x,a.g l=some x->a.f x=l:=by
 intro t a h;unfold arS at h;split at h
 ·injection h with h;subst h;refine⟨rfl,fun x=>FZ se .bool (fun y=> .sc (.bool y)) (fun _=>rfl) x.l,fun l x hl=>?_⟩
  replace hl:Js l=some x:=hl
  unfold Js at hl;split at hl
  ·injection hl with hl;subst hl;rfl
  ·cases hl
 ·injection h with h;subst h;refine⟨rfl,fun x=>FZ se .bool (fun y=> .sc (.bool y)) (fun _=>rfl) x.l,fun l x hl=>?_⟩
  replace hl:bA l=some x:=hl
  unfold bA at hl;split at hl
  ·injection hl with hl;subst hl;rfl
  ·cases hl
 ·injection h with h;subst h;refine⟨rfl,fun x=>FZ se .bool (fun y=> .sc (.bool y)) (fun _=>rfl) x.l,fun l x hl=>?_⟩
  replace hl:bA l=some x:=hl
  unfold bA at hl;split at hl
  ·injection hl with hl;subst hl;rfl
  ·cases hl
 ·injection h with h;subst h;refine⟨rfl,fun x=>FZ se (.int .i64) (fun y=> .sc (.int .i64 y)) (fun _=>rfl) x.l,fun l x hl=>?_⟩
  replace hl:rX l=some x:=hl
  unfold rX at hl;split at hl
  ·injection hl with hl;subst hl;rfl
  ·cases hl
 ·cases h
def gvS:Nat->Option ((c:CT SI)×CT.T se c):=fun _=>none
def xx:SX:={ toSE:=se,tys:=agO,get:=ahI,make:=ahs,row_get:=by intro i x;cases i;(case A144_bool=>exact Px se .bool (fun y=> .sc (.bool y)) (fun _=>rfl) _ _ _);(case A12_i64=>exact Px se (.int .i64) (fun y=> .sc (.int .i64 y)) (fun _=>rfl) _ _ _);(case A12_bool=>exact Px se .bool (fun y=> .sc (.bool y)) (fun _=>rfl) _ _ _);all_goals first |rfl |exact R4 _,row_make:=by intro i h;cases i;(case A144_bool=>exact Kn se .bool (fun y=> .sc (.bool y)) (fun _=>rfl) _ _);(case A12_i64=>exact Kn se (.int .i64) (fun y=> .sc (.int .i64 y)) (fun _=>rfl) _ _);(case A12_bool=>exact Kn se .bool (fun y=> .sc (.bool y)) (fun _=>rfl) _ _);all_goals first |rfl |exact R4 _,flat:=by intro i;cases i<;>rfl,gv:=gvS,gv_ok:=fun _=>rfl,ar:=arS,ar_ok:=agP }
def tab:List (TypeId×TyI):=[
 (3,⟨1,8,false,[.int .i64 0],.int .i64,[]⟩),
 (4,⟨1,1,false,[.bool false],.bool,[]⟩),
 (5,⟨1,1,false,[.int .u8 0],.int .u8,[]⟩),
 (9,⟨1,16,false,[.string ⟨#[]⟩],.str,[]⟩),
 (22,⟨1,24,false,[.slice none 0 0],.slice 305,[]⟩),
 (23,⟨1,24,false,[.slice none 0 0],.slice 232,[]⟩),
 (24,⟨1,24,false,[.slice none 0 0],.slice 308,[]⟩),
 (25,⟨1,24,false,[.slice none 0 0],.slice 96,[]⟩),
 (26,⟨1,24,false,[.slice none 0 0],.slice 310,[]⟩),
 (27,⟨1,24,false,[.slice none 0 0],.slice 314,[]⟩),
 (28,⟨1,24,false,[.slice none 0 0],.slice 312,[]⟩),
 (30,⟨8,176,true,[.slice none 0 0,.slice none 0 0,.slice none 0 0,.slice none 0 0,.slice none 0 0,.slice none 0 0,.slice none 0 0,.int .i64 0],.struct [(0,22),(1,23),(2,24),(3,25),(4,26),(5,27),(6,28),(7,3)],[]⟩),
 (31,⟨1,24,false,[.slice none 0 0],.slice 64,[]⟩),
 (32,⟨1,24,false,[.slice none 0 0],.slice 143,[]⟩),
 (33,⟨1,24,false,[.slice none 0 0],.slice 316,[]⟩),
 (34,⟨1,24,false,[.slice none 0 0],.slice 318,[]⟩),
 (35,⟨1,24,false,[.slice none 0 0],.slice 113,[]⟩),
 (37,⟨13,296,true,[.slice none 0 0,.slice none 0 0,.slice none 0 0,.slice none 0 0,.slice none 0 0,.slice none 0 0,.slice none 0 0,.int .i64 0,.slice none 0 0,.slice none 0 0,.slice none 0 0,.slice none 0 0,.slice none 0 0],.struct [(0,30),(8,31),(9,32),(10,33),(11,34),(12,35)],[]⟩),
 (38,⟨1,24,false,[.slice none 0 0],.slice 89,[]⟩),
 (40,⟨2,32,true,[.int .i64 0,.slice none 0 0],.struct [(0,3),(1,38)],[]⟩),
 (41,⟨1,24,false,[.slice none 0 0],.slice 9,[]⟩),
 (42,⟨1,24,false,[.slice none 0 0],.slice 79,[]⟩),
 (43,⟨1,24,false,[.slice none 0 0],.slice 72,[]⟩),
 (44,⟨1,24,false,[.slice none 0 0],.slice 3,[]⟩),
 (62,⟨1,24,false,[.slice none 0 0],.slice 82,[]⟩),
 (64,⟨4,64,true,[.int .i64 0,.int .i64 0,.slice none 0 0,.slice none 0 0],.struct [(0,3),(1,3),(2,62),(3,44)],[]⟩),
 (72,⟨3,40,true,[.int .i64 0,.slice none 0 0,.bool false],.struct [(0,3),(1,44),(2,4)],[]⟩),
 (77,⟨1,24,false,[.slice none 0 0],.slice 141,[]⟩),
 (79,⟨2,32,true,[.int .i64 0,.slice none 0 0],.struct [(0,3),(1,77)],[]⟩),
 (82,⟨4,32,true,[.int .i64 0,.int .i64 0,.int .i64 0,.int .i64 0],.struct [(0,3),(1,3),(2,3),(3,3)],[0,0,0,0]⟩),
 (84,⟨6,48,true,[.int .i64 0,.int .i64 0,.int .i64 0,.int .i64 0,.int .i64 0,.int .i64 0],.struct [(0,82),(4,3),(5,3)],[]⟩),
 (86,⟨9,72,true,[.int .i64 0,.int .i64 0,.int .i64 0,.int .i64 0,.int .i64 0,.int .i64 0,.int .i64 0,.int .i64 0,.bool false],.struct [(0,84),(6,3),(7,3),(8,4)],[]⟩),
 (87,⟨1,24,false,[.slice none 0 0],.slice 86,[]⟩),
 (89,⟨2,48,true,[.slice none 0 0,.slice none 0 0],.struct [(0,87),(1,35)],[]⟩),
 (90,⟨1,24,false,[.slice none 0 0],.slice 92,[]⟩),
 (92,⟨5,72,true,[.int .i64 0,.int .i64 0,.string ⟨#[]⟩,.string ⟨#[]⟩,.slice none 0 0],.struct [(0,3),(1,3),(2,9),(3,9),(4,90)],[]⟩),
 (94,⟨4,32,true,[.int .i64 0,.int .i64 0,.int .i64 0,.int .i64 0],.struct [(0,3),(1,3),(2,3),(3,3)],[0,0,0,0]⟩),
 (96,⟨20,232,true,[.string ⟨#[]⟩,.slice none 0 0,.slice none 0 0,.int .i64 0,.int .i64 0,.int .i64 0,.bool false,.int .i64 0,.int .i64 0,.int .i64 0,.string ⟨#[]⟩,.string ⟨#[]⟩,.slice none 0 0,.int .i64 0,.int .i64 0,.int .i64 0,.int .i64 0,.int .i64 0,.int .i64 0,.int .i64 0],.struct [(0,9),(1,41),(2,41),(3,3),(4,3),(5,3),(6,4),(7,3),(8,92),(13,94),(17,3),(18,3),(19,3)],[]⟩),
 (99,⟨1,24,false,[.slice none 0 0],.slice 40,[]⟩),
 (101,⟨8,80,true,[.int .i64 0,.int .i64 0,.int .i64 0,.int .i64 0,.int .i64 0,.slice none 0 0,.int .i64 0,.int .i64 0],.struct [(0,3),(1,3),(2,3),(3,3),(4,3),(5,99),(6,3),(7,3)],[]⟩),
 (107,⟨1,8,false,[.nilFunc],.other,[]⟩),
 (109,⟨4,32,true,[.nilFunc,.nilFunc,.nilFunc,.nilFunc],.arr 4 107,[]⟩),
 (113,⟨2,24,true,[.string ⟨#[]⟩,.int .i64 0],.struct [(0,9),(1,3)],[2,0]⟩),
 (114,⟨1,8,false,[.nilFunc],.other,[]⟩),
 (121,⟨1,24,false,[.slice none 0 0],.slice 170,[]⟩),
 (128,⟨1,24,false,[.slice none 0 0],.slice 62,[]⟩),
 (132,⟨12,12,true,[.bool false,.bool false,.bool false,.bool false,.bool false,.bool false,.bool false,.bool false,.bool false,.bool false,.bool false,.bool false],.arr 12 4,[9]⟩),
 (134,⟨144,144,true,[.bool false,.bool false,.bool false,.bool false,.bool false,.bool false,.bool false,.bool false,.bool false,.bool false,.bool false,.bool false,.bool false,.bool false,.bool false,.bool false,.bool false,.bool false,.bool false,.bool false,.bool false,.bool false,.bool false,.bool false,.bool false,.bool false,.bool false,.bool false,.bool false,.bool false,.bool false,.bool false,.bool false,.bool false,.bool false,.bool false,.bool false,.bool false,.bool false,.bool false,.bool false,.bool false,.bool false,.bool false,.bool false,.bool false,.bool false,.bool false,.bool false,.bool false,.bool false,.bool false,.bool false,.bool false,.bool false,.bool false,.bool false,.bool false,.bool false,.bool false,.bool false,.bool false,.bool false,.bool false,.bool false,.bool false,.bool false,.bool false,.bool false,.bool false,.bool false,.bool false,.bool false,.bool false,.bool false,.bool false,.bool false,.bool false,.bool false,.bool false,.bool false,.bool false,.bool false,.bool false,.bool false,.bool false,.bool false,.bool false,.bool false,.bool false,.bool false,.bool false,.bool false,.bool false,.bool false,.bool false,.bool false,.bool false,.bool false,.bool false,.bool false,.bool false,.bool false,.bool false,.bool false,.bool false,.bool false,.bool false,.bool false,.bool false,.bool false,.bool false,.bool false,.bool false,.bool false,.bool false,.bool false,.bool false,.bool false,.bool false,.bool false,.bool false,.bool false,.bool false,.bool false,.bool false,.bool false,.bool false,.bool false,.bool false,.bool false,.bool false,.bool false,.bool false,.bool false,.bool false,.bool false,.bool false,.bool false,.bool false,.bool false,.bool false,.bool false,.bool false],.arr 12 132,[9]⟩),
 (141,⟨2,16,true,[.int .i64 0,.int .i64 0],.arr 2 3,[]⟩),
 (143,⟨3,40,true,[.int .i64 0,.slice none 0 0,.int .i64 0],.struct [(0,3),(1,62),(2,3)],[]⟩),
 (144,⟨1,24,false,[.slice none 0 0],.slice 147,[]⟩),
 (147,⟨4,48,true,[.int .i64 0,.int .i64 0,.int .i64 0,.slice none 0 0],.struct [(0,3),(1,3),(2,3),(3,99)],[]⟩),
 (169,⟨1,8,false,[.map none],.map 3 4,[]⟩),
 (170,⟨1,24,false,[.slice none 0 0],.slice 181,[]⟩),
 (171,⟨1,8,false,[.map none],.map 4 4,[]⟩),
 (177,⟨1,8,false,[.int .u64 0],.int .u64,[]⟩),
 (181,⟨1,24,false,[.slice none 0 0],.slice 4,[]⟩),
 (185,⟨1,8,false,[.pointer none],.other,[]⟩),
 (187,⟨10,224,true,[.slice none 0 0,.slice none 0 0,.slice none 0 0,.slice none 0 0,.slice none 0 0,.slice none 0 0,.slice none 0 0,.int .i64 0,.slice none 0 0,.slice none 0 0],.struct [(0,30),(8,62),(9,87)],[]⟩),
 (190,⟨1,8,false,[.nilFunc],.other,[]⟩),
 (191,⟨2,24,true,[.string ⟨#[]⟩,.nilFunc],.struct [(0,9),(1,190)],[]⟩),
 (192,⟨18,216,true,[.string ⟨#[]⟩,.nilFunc,.string ⟨#[]⟩,.nilFunc,.string ⟨#[]⟩,.nilFunc,.string ⟨#[]⟩,.nilFunc,.string ⟨#[]⟩,.nilFunc,.string ⟨#[]⟩,.nilFunc,.string ⟨#[]⟩,.nilFunc,.string ⟨#[]⟩,.nilFunc,.string ⟨#[]⟩,.nilFunc],.arr 9 191,[]⟩),
 (216,⟨1,4,false,[.int .u32 0],.int .u32,[]⟩),
 (218,⟨1,8,false,[.int .u64 0],.int .u64,[]⟩),
 (232,⟨3,48,true,[.string ⟨#[]⟩,.slice none 0 0,.int .i64 0],.struct [(0,9),(1,35),(2,3)],[]⟩),
 (238,⟨1,24,false,[.slice none 0 0],.slice 260,[]⟩),
 (240,⟨1,8,false,[.int .u64 0],.int .u64,[]⟩),
 (253,⟨12,96,true,[.int .i64 0,.int .i64 0,.int .i64 0,.int .i64 0,.int .i64 0,.int .i64 0,.int .i64 0,.int .i64 0,.int .i64 0,.int .i64 0,.int .i64 0,.int .i64 0],.arr 12 3,[]⟩),
 (256,⟨1,24,false,[.slice none 0 0],.slice 258,[]⟩),
 (258,⟨2,16,true,[.int .i64 0,.int .i64 0],.struct [(0,3),(1,3)],[0,0]⟩),
 (260,⟨3,40,true,[.int .i64 0,.int .i64 0,.slice none 0 0],.struct [(0,3),(1,3),(2,256)],[]⟩),
 (272,⟨6,96,true,[.string ⟨#[]⟩,.string ⟨#[]⟩,.string ⟨#[]⟩,.string ⟨#[]⟩,.string ⟨#[]⟩,.string ⟨#[]⟩],.arr 6 9,[]⟩),
 (305,⟨6,88,true,[.string ⟨#[]⟩,.int .i64 0,.int .i64 0,.string ⟨#[]⟩,.string ⟨#[]⟩,.slice none 0 0],.struct [(0,9),(1,92)],[]⟩),
 (306,⟨1,24,false,[.slice none 0 0],.slice 321,[]⟩),
 (308,⟨3,48,true,[.string ⟨#[]⟩,.bool false,.slice none 0 0],.struct [(0,9),(1,4),(2,306)],[]⟩),
 (310,⟨4,56,true,[.string ⟨#[]⟩,.int .i64 0,.int .i64 0,.slice none 0 0],.struct [(0,9),(1,3),(2,3),(3,306)],[]⟩),
 (312,⟨3,24,true,[.int .i64 0,.int .i64 0,.int .i64 0],.struct [(0,3),(1,3),(2,3)],[0,0,0]⟩),
 (314,⟨6,72,true,[.string ⟨#[]⟩,.int .i64 0,.int .i64 0,.int .i64 0,.int .i64 0,.slice none 0 0],.struct [(0,9),(1,312),(4,3),(5,28)],[]⟩),
 (316,⟨4,32,true,[.int .i64 0,.int .i64 0,.int .i64 0,.int .i64 0],.struct [(0,3),(1,312)],[]⟩),
 (318,⟨10,80,true,[.int .i64 0,.int .i64 0,.int .i64 0,.int .i64 0,.int .i64 0,.int .i64 0,.int .i64 0,.int .i64 0,.int .i64 0,.bool false],.struct [(0,3),(1,86)],[]⟩),
 (321,⟨2,16,true,[.int .i64 0,.int .i64 0],.struct [(0,3),(1,3)],[0,0]⟩)]
def aht:List (TypeId×CT SI):=[(3,(.int .i64)),(4,.bool),(9,.str),(40,(.st SI.Drawing)),(44,(.sl (.int .i64))),(62,(.sl (.st SI.Rect))),(64,(.st SI.Lot)),(72,(.st SI.Case)),(79,(.st SI.Order)),(82,(.st SI.Rect)),(86,(.st SI.Volume)),(89,(.st SI.Phase)),(96,(.st SI.Rule)),(113,(.st SI.Entry)),(141,(.st SI.A2_i64)),(170,(.sl (.sl .bool))),(181,(.sl .bool)),(258,(.st SI.span)),(260,(.st SI.strip))]
def agl:TypeId->Option (CT xx.ι):=lk aht
theorem agm:dh Tryz.prog (QL tab):=adO (by kernel_rfl)
theorem mixed:Tryz.prog.follows .mixedOrders=true:=Checked.mixed Tryz.checked
theorem cq {f:FuncId} {fn:Func} {l:List (FuncId×Sig xx)} (hΓ:GOk Tryz.prog (gam l)) (hfn:Tryz.prog.funcs[f]? =some fn) {s:Sig xx} (h:Hn SI) (n:Nat)
 (hq : (fn.body.isSome && !(fn.name == "runtime.NumGoroutine") && decide (s.args.length <= fn.ntmps ∧ nH s.args <= 1000 ∧ (s.res.filter RT.out).length = nH s.args)) = true) (hg : s.gen = none)
 (hr:∀ a,run (gam l) (QL tab) agl fn.ntmps n (fn.body.getD .skip) (pO xx s.res) h (ini s.args a) (ahj (QL tab) fn.results.toList s.res)=s.fn a):COk Tryz.prog f s:=by
 rw[and_eq_true,and_eq_true]at hq;obtain⟨⟨q1,q2⟩,q3⟩:=hq;have hb:fn.body=some (fn.body.getD .skip):=by
  cases hc:fn.body with
  |none=>rw[hc]at q1;cases q1
  |some c=>rfl
 have hn : (fn.name == "runtime.NumGoroutine") = false := by simpa using q2
 exact cok (jW hfn hb hn) (fun a _ e=>ahk agm mixed hΓ hfn hb hn _ _ (of_decide_eq_true q3) h n ((hr a).trans e)) hg
theorem cqG {f:FuncId} {fn:Func} {l:List (FuncId×Sig xx)} (hΓ:GOk Tryz.prog (gam l)) (hfn:Tryz.prog.funcs[f]? =some fn) {g:GSig xx} (h:Hn SI) (n:Nat)
 (hq : (fn.body.isSome && !(fn.name == "runtime.NumGoroutine") && decide (g.inP.length <= fn.ntmps) && g.inOk) = true)
 (hr:∀ v,run (gam l) (QL tab) agl fn.ntmps n (fn.body.getD .skip) (VT (X:=xx) (zZ g).vars) h (acN g v) (agh (QL tab) fn.results.toList g)=g.fn v):COk Tryz.prog f ⟨[],[.d .bool],fun _=>none,some g⟩:=by
 rw[and_eq_true,and_eq_true,and_eq_true]at hq;obtain⟨⟨⟨q1,q2⟩,q3⟩,q4⟩:=hq;have hb:fn.body=some (fn.body.getD .skip):=by
  cases hc:fn.body with
  |none=>rw[hc]at q1;cases q1
  |some c=>rfl
 have hn : (fn.name == "runtime.NumGoroutine") = false := by simpa using q2
 exact ahl (jW hfn hb hn) (agJ agm mixed hΓ hfn hb hn g (of_decide_eq_true q3) q4 h n (fun v _ e=>(hr v).trans e))
theorem gcn:GOk Tryz.prog (gam ([]:List (FuncId×Sig xx))):=ax
abbrev ah:CT SI:=.int .i64
abbrev ak:CT SI:=.st SI.Rect
abbrev aG:CT SI:=.st SI.Volume
abbrev aV:CT SI:=.st SI.Def
abbrev aO:CT SI:=.st SI.Table
abbrev aR:CT SI:=.st SI.Zone
abbrev aN:CT SI:=.st SI.Rule
abbrev aW:CT SI:=.st SI.Cap
abbrev aM:CT SI:=.st SI.Point3
abbrev aS:CT SI:=.st SI.View
abbrev bB:CT SI:=.st SI.Case
abbrev aD (f:Nat) (s:Sig xx):Prop:=COk Tryz.prog f s
end Go.Proofs
