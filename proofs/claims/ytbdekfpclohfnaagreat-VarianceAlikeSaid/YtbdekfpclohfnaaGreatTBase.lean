/-
  Printed by wip/gen: what functions of the program compute, and that they do.
-/
import Derived.Test.YtbdekfpclohfnaaGreatSeq
import Derived.Test.YtbdekfpclohfnaaGreatChecked
open Bool (and_eq_true)
namespace Go.Proofs
open Go.Gb Go.RowKit
structure kF where
 a0:Int
 a1:Int
 deriving DecidableEq,Inhabited
def V4 (x:kF):List Tree:=[.sc (.int .i64 x.a0),.sc (.int .i64 x.a1)]
structure aN where
 values:Int
 pairs:(List kF)
 deriving DecidableEq,Inhabited
def ae7 (x:aN):List Tree:=[.sc (.int .i64 x.values),.sl (x.pairs.map V4)]
structure bJ where
 l:List Bool
 h:l.length=144
 deriving DecidableEq
def XC (x:bJ):List Tree:=x.l.map fun y=> .sc (.bool y)
def bE (l:List Bool):Option bJ:=if h:l.length=144 then some ⟨l,h⟩else none
structure au where
 x0:Int
 y0:Int
 x1:Int
 y1:Int
 deriving DecidableEq,Inhabited
def Qr (x:au):List Tree:=[.sc (.int .i64 x.x0),.sc (.int .i64 x.y0),.sc (.int .i64 x.x1),.sc (.int .i64 x.y1)]
structure iQ where
 id:Int
 owner:Int
 area:(List au)
 from_:(List Int)
 deriving DecidableEq,Inhabited
def ae8 (x:iQ):List Tree:=[.sc (.int .i64 x.id),.sc (.int .i64 x.owner),.sl (x.area.map Qr),.sl (x.from_.map (fun y=>[.sc (.int .i64 y)]))]
structure aG where
 from_:Int
 to:Int
 deriving DecidableEq,Inhabited
def acD (x:aG):List Tree:=[.sc (.int .i64 x.from_),.sc (.int .i64 x.to)]
structure dU where
 x0:Int
 x1:Int
 column:(List aG)
 deriving DecidableEq,Inhabited
def ae9 (x:dU):List Tree:=[.sc (.int .i64 x.x0),.sc (.int .i64 x.x1),.sl (x.column.map acD)]
structure aC where
 box_base_x0:Int
 box_base_y0:Int
 box_base_x1:Int
 box_base_y1:Int
 box_z0:Int
 box_z1:Int
 use:Int
 units:Int
 extra:Bool
 deriving DecidableEq,Inhabited
def Nu (x:aC):List Tree:=[.sc (.int .i64 x.box_base_x0),.sc (.int .i64 x.box_base_y0),.sc (.int .i64 x.box_base_x1),.sc (.int .i64 x.box_base_y1),.sc (.int .i64 x.box_z0),.sc (.int .i64 x.box_z1),.sc (.int .i64 x.use),.sc (.int .i64 x.units),.sc (.bool x.extra)]
structure bB where
 name:ByteArray
 n:Int
 deriving DecidableEq,Inhabited
def Lu (x:bB):List Tree:=[.sc (.string x.name),.sc (.int .i64 x.n)]
structure yB where
 volumes:(List aC)
 gives:(List bB)
 deriving DecidableEq,Inhabited
def Zm (x:yB):List Tree:=[.sl (x.volumes.map Nu),.sl (x.gives.map Lu)]
structure dz where
 lot:Int
 phases:(List yB)
 deriving DecidableEq,Inhabited
def abd (x:dz):List Tree:=[.sc (.int .i64 x.lot),.sl (x.phases.map Zm)]
structure Pb where
 op:Int
 n:Int
 s:ByteArray
 key:ByteArray
 args:(List Pb)
mutual
def AL:Pb->List Tree
 |⟨f0,f1,f2,f3,f4⟩=>[.sc (.int .i64 f0),.sc (.int .i64 f1),.sc (.string f2),.sc (.string f3),.sl (Lv f4)]
def Lv:List Pb->List (List Tree)
 |[]=>[]
 |x::xs=>AL x::Lv xs
end
theorem Lx:∀ l:List Pb,Lv l=l.map AL
 |[]=>rfl
 |x::xs=>by rw[Lv,Lx xs];rfl
theorem SK (x:Pb):AL x=[.sc (.int .i64 x.op),.sc (.int .i64 x.n),.sc (.string x.s),.sc (.string x.key),.sl (x.args.map AL)]:=by cases x;simp only[AL,Lx]
structure eT where
 name:ByteArray
 body_op:Int
 body_n:Int
 body_s:ByteArray
 body_key:ByteArray
 body_args:(List Pb)
def XD (x:eT):List Tree:=[.sc (.string x.name),.sc (.int .i64 x.body_op),.sc (.int .i64 x.body_n),.sc (.string x.body_s),.sc (.string x.body_key),.sl (x.body_args.map AL)]
structure bn where
 name:ByteArray
 rows:(List bB)
 else_:Int
 deriving DecidableEq,Inhabited
def LA (x:bn):List Tree:=[.sc (.string x.name),.sl (x.rows.map Lu),.sc (.int .i64 x.else_)]
structure XE where
 x:Int
 y:Int
 deriving DecidableEq,Inhabited
def SL (x:XE):List Tree:=[.sc (.int .i64 x.x),.sc (.int .i64 x.y)]
structure bW where
 name:ByteArray
 overlay:Bool
 corners:(List XE)
 deriving DecidableEq,Inhabited
def Qs (x:bW):List Tree:=[.sc (.string x.name),.sc (.bool x.overlay),.sl (x.corners.map SL)]
structure aZ where
 name:ByteArray
 zones:(List ByteArray)
 except:(List ByteArray)
 from_:Int
 until_:Int
 grace:Int
 vary:Bool
 kind:Int
 test_op:Int
 test_n:Int
 test_s:ByteArray
 test_key:ByteArray
 test_args:(List Pb)
 plane_side:Int
 plane_base:Int
 plane_num:Int
 plane_den:Int
 uses:Int
 other:Int
 n:Int
def Qt (x:aZ):List Tree:=[.sc (.string x.name),.sl (x.zones.map (fun y=>[.sc (.string y)])),.sl (x.except.map (fun y=>[.sc (.string y)])),.sc (.int .i64 x.from_),.sc (.int .i64 x.until_),.sc (.int .i64 x.grace),.sc (.bool x.vary),.sc (.int .i64 x.kind),.sc (.int .i64 x.test_op),.sc (.int .i64 x.test_n),.sc (.string x.test_s),.sc (.string x.test_key),.sl (x.test_args.map AL),.sc (.int .i64 x.plane_side),.sc (.int .i64 x.plane_base),.sc (.int .i64 x.plane_num),.sc (.int .i64 x.plane_den),.sc (.int .i64 x.uses),.sc (.int .i64 x.other),.sc (.int .i64 x.n)]
structure eU where
 name:ByteArray
 load:Int
 limit:Int
 corners:(List XE)
 deriving DecidableEq,Inhabited
def XF (x:eU):List Tree:=[.sc (.string x.name),.sc (.int .i64 x.load),.sc (.int .i64 x.limit),.sl (x.corners.map SL)]
structure aU where
 x:Int
 y:Int
 z:Int
 deriving DecidableEq,Inhabited
def CJ (x:aU):List Tree:=[.sc (.int .i64 x.x),.sc (.int .i64 x.y),.sc (.int .i64 x.z)]
structure bX where
 name:ByteArray
 eye_x:Int
 eye_y:Int
 eye_z:Int
 least:Int
 targets:(List aU)
 deriving DecidableEq,Inhabited
def Qu (x:bX):List Tree:=[.sc (.string x.name),.sc (.int .i64 x.eye_x),.sc (.int .i64 x.eye_y),.sc (.int .i64 x.eye_z),.sc (.int .i64 x.least),.sl (x.targets.map CJ)]
structure ag0 where
 plan_defs:(List eT)
 plan_tables:(List bn)
 plan_zones:(List bW)
 plan_rules:(List aZ)
 plan_caps:(List eU)
 plan_views:(List bX)
 plan_sun:(List aU)
 plan_hours:Int
 area:(List au)
 volumes:(List aC)
def agn (x:ag0):List Tree:=[.sl (x.plan_defs.map XD),.sl (x.plan_tables.map LA),.sl (x.plan_zones.map Qs),.sl (x.plan_rules.map Qt),.sl (x.plan_caps.map XF),.sl (x.plan_views.map Qu),.sl (x.plan_sun.map CJ),.sc (.int .i64 x.plan_hours),.sl (x.area.map Qr),.sl (x.volumes.map Nu)]
structure Iy where
 a0:ByteArray
 a1:ByteArray
 a2:ByteArray
 a3:ByteArray
 a4:ByteArray
 a5:ByteArray
 deriving DecidableEq,Inhabited
def adH (x:Iy):List Tree:=[.sc (.string x.a0),.sc (.string x.a1),.sc (.string x.a2),.sc (.string x.a3),.sc (.string x.a4),.sc (.string x.a5)]
structure p8 where
 defs:(List eT)
 tables:(List bn)
 zones:(List bW)
 rules:(List aZ)
 caps:(List eU)
 views:(List bX)
 sun:(List aU)
 hours:Int
def agp (x:p8):List Tree:=[.sl (x.defs.map XD),.sl (x.tables.map LA),.sl (x.zones.map Qs),.sl (x.rules.map Qt),.sl (x.caps.map XF),.sl (x.views.map Qu),.sl (x.sun.map CJ),.sc (.int .i64 x.hours)]
structure Iz where
 lot:Int
 area:(List au)
 top:Int
 deriving DecidableEq,Inhabited
def Pd (x:Iz):List Tree:=[.sc (.int .i64 x.lot),.sl (x.area.map Qr),.sc (.int .i64 x.top)]
structure XG where
 lot:Int
 at_x:Int
 at_y:Int
 at_z:Int
 deriving DecidableEq,Inhabited
def V5 (x:XG):List Tree:=[.sc (.int .i64 x.lot),.sc (.int .i64 x.at_x),.sc (.int .i64 x.at_y),.sc (.int .i64 x.at_z)]
structure XH where
 lot:Int
 volume_box_base_x0:Int
 volume_box_base_y0:Int
 volume_box_base_x1:Int
 volume_box_base_y1:Int
 volume_box_z0:Int
 volume_box_z1:Int
 volume_use:Int
 volume_units:Int
 volume_extra:Bool
 deriving DecidableEq,Inhabited
def V6 (x:XH):List Tree:=[.sc (.int .i64 x.lot),.sc (.int .i64 x.volume_box_base_x0),.sc (.int .i64 x.volume_box_base_y0),.sc (.int .i64 x.volume_box_base_x1),.sc (.int .i64 x.volume_box_base_y1),.sc (.int .i64 x.volume_box_z0),.sc (.int .i64 x.volume_box_z1),.sc (.int .i64 x.volume_use),.sc (.int .i64 x.volume_units),.sc (.bool x.volume_extra)]
structure wF where
 plan_defs:(List eT)
 plan_tables:(List bn)
 plan_zones:(List bW)
 plan_rules:(List aZ)
 plan_caps:(List eU)
 plan_views:(List bX)
 plan_sun:(List aU)
 plan_hours:Int
 land:(List iQ)
 easements:(List Iz)
 windows:(List XG)
 built:(List XH)
 base:(List bB)
def agq (x:wF):List Tree:=[.sl (x.plan_defs.map XD),.sl (x.plan_tables.map LA),.sl (x.plan_zones.map Qs),.sl (x.plan_rules.map Qt),.sl (x.plan_caps.map XF),.sl (x.plan_views.map Qu),.sl (x.plan_sun.map CJ),.sc (.int .i64 x.plan_hours),.sl (x.land.map ae8),.sl (x.easements.map Pd),.sl (x.windows.map V5),.sl (x.built.map V6),.sl (x.base.map Lu)]
structure uN where
 l:List Int
 h:l.length=12
 deriving DecidableEq
def abe (x:uN):List Tree:=x.l.map fun y=> .sc (.int .i64 y)
def sP (l:List Int):Option uN:=if h:l.length=12 then some ⟨l,h⟩else none
structure aB where
 id:Int
 values:(List Int)
 grant:Bool
 deriving DecidableEq,Inhabited
def agr (x:aB):List Tree:=[.sc (.int .i64 x.id),.sl (x.values.map (fun y=>[.sc (.int .i64 y)])),.sc (.bool x.grant)]
structure LB where
 id:Int
 values:(List Int)
 officer:Bool
 deriving DecidableEq,Inhabited
def ahr (x:LB):List Tree:=[.sc (.int .i64 x.id),.sl (x.values.map (fun y=>[.sc (.int .i64 y)])),.sc (.bool x.officer)]
structure Nv where
 l:List Bool
 h:l.length=12
 deriving DecidableEq
def Zn (x:Nv):List Tree:=x.l.map fun y=> .sc (.bool y)
def JX (l:List Bool):Option Nv:=if h:l.length=12 then some ⟨l,h⟩else none
inductive SI where
 |A2_i64
 |Order
 |A144_bool
 |Rect
 |Lot
 |span
 |strip
 |Volume
 |Entry
 |Phase
 |Drawing
 |Expr
 |Def
 |Table
 |Point
 |Zone
 |Rule
 |Cap
 |Point3
 |View
 |site
 |A6_str
 |Plan
 |Easement
 |Window
 |Placed
 |Town
 |A12_i64
 |Case
 |Ask
 |A12_bool
 deriving DecidableEq
@[reducible] def TT:SI->Type
 | .A2_i64=>kF
 | .Order=>aN
 | .A144_bool=>bJ
 | .Rect=>au
 | .Lot=>iQ
 | .span=>aG
 | .strip=>dU
 | .Volume=>aC
 | .Entry=>bB
 | .Phase=>yB
 | .Drawing=>dz
 | .Expr=>Pb
 | .Def=>eT
 | .Table=>bn
 | .Point=>XE
 | .Zone=>bW
 | .Rule=>aZ
 | .Cap=>eU
 | .Point3=>aU
 | .View=>bX
 | .site=>ag0
 | .A6_str=>Iy
 | .Plan=>p8
 | .Easement=>Iz
 | .Window=>XG
 | .Placed=>XH
 | .Town=>wF
 | .A12_i64=>uN
 | .Case=>aB
 | .Ask=>LB
 | .A12_bool=>Nv
def ah6:(i:SI)->TT i->List Tree
 | .A2_i64,x=>V4 x
 | .Order,x=>ae7 x
 | .A144_bool,x=>XC x
 | .Rect,x=>Qr x
 | .Lot,x=>ae8 x
 | .span,x=>acD x
 | .strip,x=>ae9 x
 | .Volume,x=>Nu x
 | .Entry,x=>Lu x
 | .Phase,x=>Zm x
 | .Drawing,x=>abd x
 | .Expr,x=>AL x
 | .Def,x=>XD x
 | .Table,x=>LA x
 | .Point,x=>SL x
 | .Zone,x=>Qs x
 | .Rule,x=>Qt x
 | .Cap,x=>XF x
 | .Point3,x=>CJ x
 | .View,x=>Qu x
 | .site,x=>agn x
 | .A6_str,x=>adH x
 | .Plan,x=>agp x
 | .Easement,x=>Pd x
 | .Window,x=>V5 x
 | .Placed,x=>V6 x
 | .Town,x=>agq x
 | .A12_i64,x=>abe x
 | .Case,x=>agr x
 | .Ask,x=>ahr x
 | .A12_bool,x=>Zn x
def se:SE:=⟨SI,inferInstance,TT,ah6⟩
def ahs:SI->List (CT SI)
 | .A2_i64=>[(.int .i64),(.int .i64)]
 | .Order=>[(.int .i64),(.sl (.st SI.A2_i64))]
 | .A144_bool=>List.replicate 144 .bool
 | .Rect=>[(.int .i64),(.int .i64),(.int .i64),(.int .i64)]
 | .Lot=>[(.int .i64),(.int .i64),(.sl (.st SI.Rect)),(.sl (.int .i64))]
 | .span=>[(.int .i64),(.int .i64)]
 | .strip=>[(.int .i64),(.int .i64),(.sl (.st SI.span))]
 | .Volume=>[(.int .i64),(.int .i64),(.int .i64),(.int .i64),(.int .i64),(.int .i64),(.int .i64),(.int .i64),.bool]
 | .Entry=>[.str,(.int .i64)]
 | .Phase=>[(.sl (.st SI.Volume)),(.sl (.st SI.Entry))]
 | .Drawing=>[(.int .i64),(.sl (.st SI.Phase))]
 | .Expr=>[(.int .i64),(.int .i64),.str,.str,(.sl (.st SI.Expr))]
 | .Def=>[.str,(.int .i64),(.int .i64),.str,.str,(.sl (.st SI.Expr))]
 | .Table=>[.str,(.sl (.st SI.Entry)),(.int .i64)]
 | .Point=>[(.int .i64),(.int .i64)]
 | .Zone=>[.str,.bool,(.sl (.st SI.Point))]
 | .Rule=>[.str,(.sl .str),(.sl .str),(.int .i64),(.int .i64),(.int .i64),.bool,(.int .i64),(.int .i64),(.int .i64),.str,.str,(.sl (.st SI.Expr)),(.int .i64),(.int .i64),(.int .i64),(.int .i64),(.int .i64),(.int .i64),(.int .i64)]
 | .Cap=>[.str,(.int .i64),(.int .i64),(.sl (.st SI.Point))]
 | .Point3=>[(.int .i64),(.int .i64),(.int .i64)]
 | .View=>[.str,(.int .i64),(.int .i64),(.int .i64),(.int .i64),(.sl (.st SI.Point3))]
 | .site=>[(.sl (.st SI.Def)),(.sl (.st SI.Table)),(.sl (.st SI.Zone)),(.sl (.st SI.Rule)),(.sl (.st SI.Cap)),(.sl (.st SI.View)),(.sl (.st SI.Point3)),(.int .i64),(.sl (.st SI.Rect)),(.sl (.st SI.Volume))]
 | .A6_str=>[.str,.str,.str,.str,.str,.str]
 | .Plan=>[(.sl (.st SI.Def)),(.sl (.st SI.Table)),(.sl (.st SI.Zone)),(.sl (.st SI.Rule)),(.sl (.st SI.Cap)),(.sl (.st SI.View)),(.sl (.st SI.Point3)),(.int .i64)]
 | .Easement=>[(.int .i64),(.sl (.st SI.Rect)),(.int .i64)]
 | .Window=>[(.int .i64),(.int .i64),(.int .i64),(.int .i64)]
 | .Placed=>[(.int .i64),(.int .i64),(.int .i64),(.int .i64),(.int .i64),(.int .i64),(.int .i64),(.int .i64),(.int .i64),.bool]
 | .Town=>[(.sl (.st SI.Def)),(.sl (.st SI.Table)),(.sl (.st SI.Zone)),(.sl (.st SI.Rule)),(.sl (.st SI.Cap)),(.sl (.st SI.View)),(.sl (.st SI.Point3)),(.int .i64),(.sl (.st SI.Lot)),(.sl (.st SI.Easement)),(.sl (.st SI.Window)),(.sl (.st SI.Placed)),(.sl (.st SI.Entry))]
 | .A12_i64=>List.replicate 12 (.int .i64)
 | .Case=>[(.int .i64),(.sl (.int .i64)),.bool]
 | .Ask=>[(.int .i64),(.sl (.int .i64)),.bool]
 | .A12_bool=>List.replicate 12 .bool
def aim:(i:SI)->TT i->HL se (ahs i)
 | .A2_i64,x=>(x.a0,x.a1,())
 | .Order,x=>(x.values,x.pairs,())
 | .A144_bool,x=>Vj se .bool 144 x.l x.h
 | .Rect,x=>(x.x0,x.y0,x.x1,x.y1,())
 | .Lot,x=>(x.id,x.owner,x.area,x.from_,())
 | .span,x=>(x.from_,x.to,())
 | .strip,x=>(x.x0,x.x1,x.column,())
 | .Volume,x=>(x.box_base_x0,x.box_base_y0,x.box_base_x1,x.box_base_y1,x.box_z0,x.box_z1,x.use,x.units,x.extra,())
 | .Entry,x=>(x.name,x.n,())
 | .Phase,x=>(x.volumes,x.gives,())
 | .Drawing,x=>(x.lot,x.phases,())
 | .Expr,x=>(x.op,x.n,x.s,x.key,x.args,())
 | .Def,x=>(x.name,x.body_op,x.body_n,x.body_s,x.body_key,x.body_args,())
 | .Table,x=>(x.name,x.rows,x.else_,())
 | .Point,x=>(x.x,x.y,())
 | .Zone,x=>(x.name,x.overlay,x.corners,())
 | .Rule,x=>(x.name,x.zones,x.except,x.from_,x.until_,x.grace,x.vary,x.kind,x.test_op,x.test_n,x.test_s,x.test_key,x.test_args,x.plane_side,x.plane_base,x.plane_num,x.plane_den,x.uses,x.other,x.n,())
 | .Cap,x=>(x.name,x.load,x.limit,x.corners,())
 | .Point3,x=>(x.x,x.y,x.z,())
 | .View,x=>(x.name,x.eye_x,x.eye_y,x.eye_z,x.least,x.targets,())
 | .site,x=>(x.plan_defs,x.plan_tables,x.plan_zones,x.plan_rules,x.plan_caps,x.plan_views,x.plan_sun,x.plan_hours,x.area,x.volumes,())
 | .A6_str,x=>(x.a0,x.a1,x.a2,x.a3,x.a4,x.a5,())
 | .Plan,x=>(x.defs,x.tables,x.zones,x.rules,x.caps,x.views,x.sun,x.hours,())
 | .Easement,x=>(x.lot,x.area,x.top,())
 | .Window,x=>(x.lot,x.at_x,x.at_y,x.at_z,())
 | .Placed,x=>(x.lot,x.volume_box_base_x0,x.volume_box_base_y0,x.volume_box_base_x1,x.volume_box_base_y1,x.volume_box_z0,x.volume_box_z1,x.volume_use,x.volume_units,x.volume_extra,())
 | .Town,x=>(x.plan_defs,x.plan_tables,x.plan_zones,x.plan_rules,x.plan_caps,x.plan_views,x.plan_sun,x.plan_hours,x.land,x.easements,x.windows,x.built,x.base,())
 | .A12_i64,x=>Vj se (.int .i64) 12 x.l x.h
 | .Case,x=>(x.id,x.values,x.grant,())
 | .Ask,x=>(x.id,x.values,x.officer,())
 | .A12_bool,x=>Vj se .bool 12 x.l x.h
def ah7:(i:SI)->HL se (ahs i)->TT i
 | .A2_i64,h=>⟨h.1,h.2.1⟩
 | .Order,h=>⟨h.1,h.2.1⟩
 | .A144_bool,h=>⟨aay se .bool 144 h,Qm se _ _ h⟩
 | .Rect,h=>⟨h.1,h.2.1,h.2.2.1,h.2.2.2.1⟩
 | .Lot,h=>⟨h.1,h.2.1,h.2.2.1,h.2.2.2.1⟩
 | .span,h=>⟨h.1,h.2.1⟩
 | .strip,h=>⟨h.1,h.2.1,h.2.2.1⟩
 | .Volume,h=>⟨h.1,h.2.1,h.2.2.1,h.2.2.2.1,h.2.2.2.2.1,h.2.2.2.2.2.1,h.2.2.2.2.2.2.1,h.2.2.2.2.2.2.2.1,h.2.2.2.2.2.2.2.2.1⟩
 | .Entry,h=>⟨h.1,h.2.1⟩
 | .Phase,h=>⟨h.1,h.2.1⟩
 | .Drawing,h=>⟨h.1,h.2.1⟩
 | .Expr,h=>⟨h.1,h.2.1,h.2.2.1,h.2.2.2.1,h.2.2.2.2.1⟩
 | .Def,h=>⟨h.1,h.2.1,h.2.2.1,h.2.2.2.1,h.2.2.2.2.1,h.2.2.2.2.2.1⟩
 | .Table,h=>⟨h.1,h.2.1,h.2.2.1⟩
 | .Point,h=>⟨h.1,h.2.1⟩
 | .Zone,h=>⟨h.1,h.2.1,h.2.2.1⟩
 | .Rule,h=>⟨h.1,h.2.1,h.2.2.1,h.2.2.2.1,h.2.2.2.2.1,h.2.2.2.2.2.1,h.2.2.2.2.2.2.1,h.2.2.2.2.2.2.2.1,h.2.2.2.2.2.2.2.2.1,h.2.2.2.2.2.2.2.2.2.1,h.2.2.2.2.2.2.2.2.2.2.1,h.2.2.2.2.2.2.2.2.2.2.2.1,h.2.2.2.2.2.2.2.2.2.2.2.2.1,h.2.2.2.2.2.2.2.2.2.2.2.2.2.1,h.2.2.2.2.2.2.2.2.2.2.2.2.2.2.1,h.2.2.2.2.2.2.2.2.2.2.2.2.2.2.2.1,h.2.2.2.2.2.2.2.2.2.2.2.2.2.2.2.2.1,h.2.2.2.2.2.2.2.2.2.2.2.2.2.2.2.2.2.1,h.2.2.2.2.2.2.2.2.2.2.2.2.2.2.2.2.2.2.1,h.2.2.2.2.2.2.2.2.2.2.2.2.2.2.2.2.2.2.2.1⟩
 | .Cap,h=>⟨h.1,h.2.1,h.2.2.1,h.2.2.2.1⟩
 | .Point3,h=>⟨h.1,h.2.1,h.2.2.1⟩
 | .View,h=>⟨h.1,h.2.1,h.2.2.1,h.2.2.2.1,h.2.2.2.2.1,h.2.2.2.2.2.1⟩
 | .site,h=>⟨h.1,h.2.1,h.2.2.1,h.2.2.2.1,h.2.2.2.2.1,h.2.2.2.2.2.1,h.2.2.2.2.2.2.1,h.2.2.2.2.2.2.2.1,h.2.2.2.2.2.2.2.2.1,h.2.2.2.2.2.2.2.2.2.1⟩
 | .A6_str,h=>⟨h.1,h.2.1,h.2.2.1,h.2.2.2.1,h.2.2.2.2.1,h.2.2.2.2.2.1⟩
 | .Plan,h=>⟨h.1,h.2.1,h.2.2.1,h.2.2.2.1,h.2.2.2.2.1,h.2.2.2.2.2.1,h.2.2.2.2.2.2.1,h.2.2.2.2.2.2.2.1⟩
 | .Easement,h=>⟨h.1,h.2.1,h.2.2.1⟩
 | .Window,h=>⟨h.1,h.2.1,h.2.2.1,h.2.2.2.1⟩
 | .Placed,h=>⟨h.1,h.2.1,h.2.2.1,h.2.2.2.1,h.2.2.2.2.1,h.2.2.2.2.2.1,h.2.2.2.2.2.2.1,h.2.2.2.2.2.2.2.1,h.2.2.2.2.2.2.2.2.1,h.2.2.2.2.2.2.2.2.2.1⟩
 | .Town,h=>⟨h.1,h.2.1,h.2.2.1,h.2.2.2.1,h.2.2.2.2.1,h.2.2.2.2.2.1,h.2.2.2.2.2.2.1,h.2.2.2.2.2.2.2.1,h.2.2.2.2.2.2.2.2.1,h.2.2.2.2.2.2.2.2.2.1,h.2.2.2.2.2.2.2.2.2.2.1,h.2.2.2.2.2.2.2.2.2.2.2.1,h.2.2.2.2.2.2.2.2.2.2.2.2.1⟩
 | .A12_i64,h=>⟨aay se (.int .i64) 12 h,Qm se _ _ h⟩
 | .Case,h=>⟨h.1,h.2.1,h.2.2.1⟩
 | .Ask,h=>⟨h.1,h.2.1,h.2.2.1⟩
 | .A12_bool,h=>⟨aay se .bool 12 h,Qm se _ _ h⟩
def arS:TypeId->Option (Arr se)
 | 119=>some ⟨SI.A12_bool,.bool,fun x=>x.l,JX⟩
 | 120=>some ⟨SI.A144_bool,.bool,fun x=>x.l,bE⟩
 | 121=>some ⟨SI.A144_bool,.bool,fun x=>x.l,bE⟩
 | 252=>some ⟨SI.A12_i64,(.int .i64),fun x=>x.l,sP⟩
 |_=>none
theorem aht:∀ t a,arS t=some a->a.c.one=true∧(∀ x,ah6 a.i x=((a.f x).map (CT.row se a.c)).flatten)∧∀ l x,a.g l=some x->a.f x=l:=by
 intro t a h;unfold arS at h;split at h
 ·injection h with h;subst h;refine⟨rfl,fun x=>Gw se .bool (fun y=> .sc (.bool y)) (fun _=>rfl) x.l,fun l x hl=>?_⟩
  replace hl:JX l=some x:=hl
  unfold JX at hl;split at hl
  ·injection hl with hl;subst hl;rfl
  ·cases hl
 ·injection h with h;subst h;refine⟨rfl,fun x=>Gw se .bool (fun y=> .sc (.bool y)) (fun _=>rfl) x.l,fun l x hl=>?_⟩
  replace hl:bE l=some x:=hl
  unfold bE at hl;split at hl
  ·injection hl with hl;subst hl;rfl
  ·cases hl
 ·injection h with h;subst h;refine⟨rfl,fun x=>Gw se .bool (fun y=> .sc (.bool y)) (fun _=>rfl) x.l,fun l x hl=>?_⟩
  replace hl:bE l=some x:=hl
  unfold bE at hl;split at hl
  ·injection hl with hl;subst hl;rfl
  ·cases hl
 ·injection h with h;subst h;refine⟨rfl,fun x=>Gw se (.int .i64) (fun y=> .sc (.int .i64 y)) (fun _=>rfl) x.l,fun l x hl=>?_⟩
  replace hl:sP l=some x:=hl
  unfold sP at hl;split at hl
  ·injection hl with hl;subst hl;rfl
  ·cases hl
 ·cases h
def gvS:Nat->Option ((c:CT SI)×CT.T se c):=fun _=>none
def xx:SX:={ toSE:=se,tys:=ahs,get:=aim,make:=ah7,row_get:=by intro i x;cases i;(case A144_bool=>exact Qn se .bool (fun y=> .sc (.bool y)) (fun _=>rfl) _ _ _);(case A12_i64=>exact Qn se (.int .i64) (fun y=> .sc (.int .i64 y)) (fun _=>rfl) _ _ _);(case A12_bool=>exact Qn se .bool (fun y=> .sc (.bool y)) (fun _=>rfl) _ _ _);all_goals first |rfl |exact SK _,row_make:=by intro i h;cases i;(case A144_bool=>exact KT se .bool (fun y=> .sc (.bool y)) (fun _=>rfl) _ _);(case A12_i64=>exact KT se (.int .i64) (fun y=> .sc (.int .i64 y)) (fun _=>rfl) _ _);(case A12_bool=>exact KT se .bool (fun y=> .sc (.bool y)) (fun _=>rfl) _ _);all_goals first |rfl |exact SK _,flat:=by intro i;cases i<;>rfl,gv:=gvS,gv_ok:=fun _=>rfl,ar:=arS,ar_ok:=aht }
def tab:List (TypeId×TyI):=[
 (3,⟨1,8,false,[.int .i64 0],.int .i64,[]⟩),
 (4,⟨1,1,false,[.bool false],.bool,[]⟩),
 (5,⟨1,1,false,[.int .u8 0],.int .u8,[]⟩),
 (9,⟨1,16,false,[.string ⟨#[]⟩],.str,[]⟩),
 (22,⟨1,24,false,[.slice none 0 0],.slice 304,[]⟩),
 (23,⟨1,24,false,[.slice none 0 0],.slice 231,[]⟩),
 (24,⟨1,24,false,[.slice none 0 0],.slice 307,[]⟩),
 (25,⟨1,24,false,[.slice none 0 0],.slice 90,[]⟩),
 (26,⟨1,24,false,[.slice none 0 0],.slice 309,[]⟩),
 (27,⟨1,24,false,[.slice none 0 0],.slice 313,[]⟩),
 (28,⟨1,24,false,[.slice none 0 0],.slice 311,[]⟩),
 (30,⟨8,176,true,[.slice none 0 0,.slice none 0 0,.slice none 0 0,.slice none 0 0,.slice none 0 0,.slice none 0 0,.slice none 0 0,.int .i64 0],.struct [(0,22),(1,23),(2,24),(3,25),(4,26),(5,27),(6,28),(7,3)],[]⟩),
 (31,⟨1,24,false,[.slice none 0 0],.slice 83,[]⟩),
 (32,⟨1,24,false,[.slice none 0 0],.slice 134,[]⟩),
 (33,⟨1,24,false,[.slice none 0 0],.slice 315,[]⟩),
 (34,⟨1,24,false,[.slice none 0 0],.slice 317,[]⟩),
 (35,⟨1,24,false,[.slice none 0 0],.slice 110,[]⟩),
 (37,⟨13,296,true,[.slice none 0 0,.slice none 0 0,.slice none 0 0,.slice none 0 0,.slice none 0 0,.slice none 0 0,.slice none 0 0,.int .i64 0,.slice none 0 0,.slice none 0 0,.slice none 0 0,.slice none 0 0,.slice none 0 0],.struct [(0,30),(8,31),(9,32),(10,33),(11,34),(12,35)],[]⟩),
 (38,⟨1,24,false,[.slice none 0 0],.slice 80,[]⟩),
 (40,⟨2,32,true,[.int .i64 0,.slice none 0 0],.struct [(0,3),(1,38)],[]⟩),
 (41,⟨1,24,false,[.slice none 0 0],.slice 9,[]⟩),
 (42,⟨1,24,false,[.slice none 0 0],.slice 70,[]⟩),
 (43,⟨1,24,false,[.slice none 0 0],.slice 63,[]⟩),
 (44,⟨1,24,false,[.slice none 0 0],.slice 3,[]⟩),
 (46,⟨3,40,true,[.int .i64 0,.slice none 0 0,.bool false],.struct [(0,3),(1,44),(2,4)],[]⟩),
 (59,⟨1,24,false,[.slice none 0 0],.slice 46,[]⟩),
 (63,⟨3,40,true,[.int .i64 0,.slice none 0 0,.bool false],.struct [(0,3),(1,44),(2,4)],[]⟩),
 (68,⟨1,24,false,[.slice none 0 0],.slice 132,[]⟩),
 (70,⟨2,32,true,[.int .i64 0,.slice none 0 0],.struct [(0,3),(1,68)],[]⟩),
 (73,⟨4,32,true,[.int .i64 0,.int .i64 0,.int .i64 0,.int .i64 0],.struct [(0,3),(1,3),(2,3),(3,3)],[0,0,0,0]⟩),
 (75,⟨6,48,true,[.int .i64 0,.int .i64 0,.int .i64 0,.int .i64 0,.int .i64 0,.int .i64 0],.struct [(0,73),(4,3),(5,3)],[]⟩),
 (77,⟨9,72,true,[.int .i64 0,.int .i64 0,.int .i64 0,.int .i64 0,.int .i64 0,.int .i64 0,.int .i64 0,.int .i64 0,.bool false],.struct [(0,75),(6,3),(7,3),(8,4)],[]⟩),
 (78,⟨1,24,false,[.slice none 0 0],.slice 77,[]⟩),
 (80,⟨2,48,true,[.slice none 0 0,.slice none 0 0],.struct [(0,78),(1,35)],[]⟩),
 (81,⟨1,24,false,[.slice none 0 0],.slice 73,[]⟩),
 (83,⟨4,64,true,[.int .i64 0,.int .i64 0,.slice none 0 0,.slice none 0 0],.struct [(0,3),(1,3),(2,81),(3,44)],[]⟩),
 (84,⟨1,24,false,[.slice none 0 0],.slice 86,[]⟩),
 (86,⟨5,72,true,[.int .i64 0,.int .i64 0,.string ⟨#[]⟩,.string ⟨#[]⟩,.slice none 0 0],.struct [(0,3),(1,3),(2,9),(3,9),(4,84)],[]⟩),
 (88,⟨4,32,true,[.int .i64 0,.int .i64 0,.int .i64 0,.int .i64 0],.struct [(0,3),(1,3),(2,3),(3,3)],[0,0,0,0]⟩),
 (90,⟨20,232,true,[.string ⟨#[]⟩,.slice none 0 0,.slice none 0 0,.int .i64 0,.int .i64 0,.int .i64 0,.bool false,.int .i64 0,.int .i64 0,.int .i64 0,.string ⟨#[]⟩,.string ⟨#[]⟩,.slice none 0 0,.int .i64 0,.int .i64 0,.int .i64 0,.int .i64 0,.int .i64 0,.int .i64 0,.int .i64 0],.struct [(0,9),(1,41),(2,41),(3,3),(4,3),(5,3),(6,4),(7,3),(8,86),(13,88),(17,3),(18,3),(19,3)],[]⟩),
 (103,⟨1,8,false,[.nilFunc],.other,[]⟩),
 (106,⟨4,32,true,[.nilFunc,.nilFunc,.nilFunc,.nilFunc],.arr 4 103,[]⟩),
 (110,⟨2,24,true,[.string ⟨#[]⟩,.int .i64 0],.struct [(0,9),(1,3)],[2,0]⟩),
 (111,⟨1,8,false,[.nilFunc],.other,[]⟩),
 (119,⟨12,12,true,[.bool false,.bool false,.bool false,.bool false,.bool false,.bool false,.bool false,.bool false,.bool false,.bool false,.bool false,.bool false],.arr 12 4,[9]⟩),
 (121,⟨144,144,true,[.bool false,.bool false,.bool false,.bool false,.bool false,.bool false,.bool false,.bool false,.bool false,.bool false,.bool false,.bool false,.bool false,.bool false,.bool false,.bool false,.bool false,.bool false,.bool false,.bool false,.bool false,.bool false,.bool false,.bool false,.bool false,.bool false,.bool false,.bool false,.bool false,.bool false,.bool false,.bool false,.bool false,.bool false,.bool false,.bool false,.bool false,.bool false,.bool false,.bool false,.bool false,.bool false,.bool false,.bool false,.bool false,.bool false,.bool false,.bool false,.bool false,.bool false,.bool false,.bool false,.bool false,.bool false,.bool false,.bool false,.bool false,.bool false,.bool false,.bool false,.bool false,.bool false,.bool false,.bool false,.bool false,.bool false,.bool false,.bool false,.bool false,.bool false,.bool false,.bool false,.bool false,.bool false,.bool false,.bool false,.bool false,.bool false,.bool false,.bool false,.bool false,.bool false,.bool false,.bool false,.bool false,.bool false,.bool false,.bool false,.bool false,.bool false,.bool false,.bool false,.bool false,.bool false,.bool false,.bool false,.bool false,.bool false,.bool false,.bool false,.bool false,.bool false,.bool false,.bool false,.bool false,.bool false,.bool false,.bool false,.bool false,.bool false,.bool false,.bool false,.bool false,.bool false,.bool false,.bool false,.bool false,.bool false,.bool false,.bool false,.bool false,.bool false,.bool false,.bool false,.bool false,.bool false,.bool false,.bool false,.bool false,.bool false,.bool false,.bool false,.bool false,.bool false,.bool false,.bool false,.bool false,.bool false,.bool false,.bool false,.bool false,.bool false,.bool false,.bool false],.arr 12 119,[9]⟩),
 (126,⟨1,24,false,[.slice none 0 0],.slice 173,[]⟩),
 (132,⟨2,16,true,[.int .i64 0,.int .i64 0],.arr 2 3,[]⟩),
 (134,⟨3,40,true,[.int .i64 0,.slice none 0 0,.int .i64 0],.struct [(0,3),(1,81),(2,3)],[]⟩),
 (144,⟨1,24,false,[.slice none 0 0],.slice 81,[]⟩),
 (171,⟨1,8,false,[.map none],.map 3 4,[]⟩),
 (172,⟨1,24,false,[.slice none 0 0],.slice 4,[]⟩),
 (173,⟨1,24,false,[.slice none 0 0],.slice 172,[]⟩),
 (179,⟨1,8,false,[.int .u64 0],.int .u64,[]⟩),
 (180,⟨1,8,false,[.pointer none],.other,[]⟩),
 (182,⟨10,224,true,[.slice none 0 0,.slice none 0 0,.slice none 0 0,.slice none 0 0,.slice none 0 0,.slice none 0 0,.slice none 0 0,.int .i64 0,.slice none 0 0,.slice none 0 0],.struct [(0,30),(8,81),(9,78)],[]⟩),
 (186,⟨1,8,false,[.nilFunc],.other,[]⟩),
 (187,⟨2,24,true,[.string ⟨#[]⟩,.nilFunc],.struct [(0,9),(1,186)],[]⟩),
 (188,⟨18,216,true,[.string ⟨#[]⟩,.nilFunc,.string ⟨#[]⟩,.nilFunc,.string ⟨#[]⟩,.nilFunc,.string ⟨#[]⟩,.nilFunc,.string ⟨#[]⟩,.nilFunc,.string ⟨#[]⟩,.nilFunc,.string ⟨#[]⟩,.nilFunc,.string ⟨#[]⟩,.nilFunc,.string ⟨#[]⟩,.nilFunc],.arr 9 187,[]⟩),
 (196,⟨1,8,false,[.map none],.map 4 4,[]⟩),
 (209,⟨1,4,false,[.int .u32 0],.int .u32,[]⟩),
 (211,⟨1,8,false,[.int .u64 0],.int .u64,[]⟩),
 (231,⟨3,48,true,[.string ⟨#[]⟩,.slice none 0 0,.int .i64 0],.struct [(0,9),(1,35),(2,3)],[]⟩),
 (236,⟨1,8,false,[.int .u64 0],.int .u64,[]⟩),
 (243,⟨1,24,false,[.slice none 0 0],.slice 261,[]⟩),
 (252,⟨12,96,true,[.int .i64 0,.int .i64 0,.int .i64 0,.int .i64 0,.int .i64 0,.int .i64 0,.int .i64 0,.int .i64 0,.int .i64 0,.int .i64 0,.int .i64 0,.int .i64 0],.arr 12 3,[]⟩),
 (257,⟨1,24,false,[.slice none 0 0],.slice 259,[]⟩),
 (259,⟨2,16,true,[.int .i64 0,.int .i64 0],.struct [(0,3),(1,3)],[0,0]⟩),
 (261,⟨3,40,true,[.int .i64 0,.int .i64 0,.slice none 0 0],.struct [(0,3),(1,3),(2,257)],[]⟩),
 (270,⟨6,96,true,[.string ⟨#[]⟩,.string ⟨#[]⟩,.string ⟨#[]⟩,.string ⟨#[]⟩,.string ⟨#[]⟩,.string ⟨#[]⟩],.arr 6 9,[]⟩),
 (304,⟨6,88,true,[.string ⟨#[]⟩,.int .i64 0,.int .i64 0,.string ⟨#[]⟩,.string ⟨#[]⟩,.slice none 0 0],.struct [(0,9),(1,86)],[]⟩),
 (305,⟨1,24,false,[.slice none 0 0],.slice 320,[]⟩),
 (307,⟨3,48,true,[.string ⟨#[]⟩,.bool false,.slice none 0 0],.struct [(0,9),(1,4),(2,305)],[]⟩),
 (309,⟨4,56,true,[.string ⟨#[]⟩,.int .i64 0,.int .i64 0,.slice none 0 0],.struct [(0,9),(1,3),(2,3),(3,305)],[]⟩),
 (311,⟨3,24,true,[.int .i64 0,.int .i64 0,.int .i64 0],.struct [(0,3),(1,3),(2,3)],[0,0,0]⟩),
 (313,⟨6,72,true,[.string ⟨#[]⟩,.int .i64 0,.int .i64 0,.int .i64 0,.int .i64 0,.slice none 0 0],.struct [(0,9),(1,311),(4,3),(5,28)],[]⟩),
 (315,⟨4,32,true,[.int .i64 0,.int .i64 0,.int .i64 0,.int .i64 0],.struct [(0,3),(1,311)],[]⟩),
 (317,⟨10,80,true,[.int .i64 0,.int .i64 0,.int .i64 0,.int .i64 0,.int .i64 0,.int .i64 0,.int .i64 0,.int .i64 0,.int .i64 0,.bool false],.struct [(0,3),(1,77)],[]⟩),
 (320,⟨2,16,true,[.int .i64 0,.int .i64 0],.struct [(0,3),(1,3)],[0,0]⟩)]
def ah8:List (TypeId×CT SI):=[(3,(.int .i64)),(4,.bool),(9,.str),(44,(.sl (.int .i64))),(63,(.st SI.Case)),(70,(.st SI.Order)),(73,(.st SI.Rect)),(77,(.st SI.Volume)),(80,(.st SI.Phase)),(81,(.sl (.st SI.Rect))),(83,(.st SI.Lot)),(90,(.st SI.Rule)),(110,(.st SI.Entry)),(126,(.sl (.sl (.sl .bool)))),(132,(.st SI.A2_i64)),(172,(.sl .bool)),(173,(.sl (.sl .bool))),(259,(.st SI.span)),(261,(.st SI.strip))]
def ag1:TypeId->Option (CT xx.ι):=lk ah8
theorem ag2:dm Tryz.prog (Ro tab):=aeu (by kernel_rfl)
theorem mixed:Tryz.prog.follows .mixedOrders=true:=Checked.mixed Tryz.checked
theorem cq {f:FuncId} {fn:Func} {l:List (FuncId×Sig xx)} (hΓ:GOk Tryz.prog (gam l)) (hfn:Tryz.prog.funcs[f]? =some fn) {s:Sig xx} (h:Hn SI) (n:Nat)
 (hq : (fn.body.isSome && !(fn.name == "runtime.NumGoroutine") && decide (s.args.length <= fn.ntmps ∧ nW s.args <= 1000 ∧ (s.res.filter RT.out).length = nW s.args)) = true) (hg : s.gen = none)
 (hr:∀ a,run (gam l) (Ro tab) ag1 fn.ntmps n (fn.body.getD .skip) (qg xx s.res) h (ini s.args a) (ahZ (Ro tab) fn.results.toList s.res)=s.fn a):COk Tryz.prog f s:=by
 rw[and_eq_true,and_eq_true]at hq;obtain⟨⟨q1,q2⟩,q3⟩:=hq;have hb:fn.body=some (fn.body.getD .skip):=by
  cases hc:fn.body with
  |none=>rw[hc]at q1;cases q1
  |some c=>rfl
 have hn : (fn.name == "runtime.NumGoroutine") = false := by simpa using q2
 exact cok (jZ hfn hb hn) (fun a _ e=>ah0 ag2 mixed hΓ hfn hb hn _ _ (of_decide_eq_true q3) h n ((hr a).trans e)) hg
theorem cqG {f:FuncId} {fn:Func} {l:List (FuncId×Sig xx)} (hΓ:GOk Tryz.prog (gam l)) (hfn:Tryz.prog.funcs[f]? =some fn) {g:GSig xx} (h:Hn SI) (n:Nat)
 (hq : (fn.body.isSome && !(fn.name == "runtime.NumGoroutine") && decide (g.inP.length <= fn.ntmps) && g.inOk) = true)
 (hr:∀ v,run (gam l) (Ro tab) ag1 fn.ntmps n (fn.body.getD .skip) (VT (X:=xx) (AJ g).vars) h (adw g v) (agX (Ro tab) fn.results.toList g)=g.fn v):COk Tryz.prog f ⟨[],[.d .bool],fun _=>none,some g⟩:=by
 rw[and_eq_true,and_eq_true,and_eq_true]at hq;obtain⟨⟨⟨q1,q2⟩,q3⟩,q4⟩:=hq;have hb:fn.body=some (fn.body.getD .skip):=by
  cases hc:fn.body with
  |none=>rw[hc]at q1;cases q1
  |some c=>rfl
 have hn : (fn.name == "runtime.NumGoroutine") = false := by simpa using q2
 exact ah1 (jZ hfn hb hn) (ahn ag2 mixed hΓ hfn hb hn g (of_decide_eq_true q3) q4 h n (fun v _ e=>(hr v).trans e))
theorem gcn:GOk Tryz.prog (gam ([]:List (FuncId×Sig xx))):=ax
abbrev ah:CT SI:=.int .i64
abbrev bR:CT SI:=.st SI.Order
abbrev ak:CT SI:=.st SI.Rect
abbrev aH:CT SI:=.st SI.Volume
abbrev aX:CT SI:=.st SI.Def
abbrev aP:CT SI:=.st SI.Table
abbrev aR:CT SI:=.st SI.Zone
abbrev aO:CT SI:=.st SI.Rule
abbrev aY:CT SI:=.st SI.Cap
abbrev aM:CT SI:=.st SI.Point3
abbrev aS:CT SI:=.st SI.View
abbrev aW:CT SI:=.st SI.Case
abbrev aD (f:Nat) (s:Sig xx):Prop:=COk Tryz.prog f s
end Go.Proofs
