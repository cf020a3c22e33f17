/-
  Printed by wip/gen: what functions of the program compute, and that they do.
-/
import Derived.Test.YtccijnckfbanfaaGreatDoorL1
import Derived.Test.YtccijnckfbanfaaGreatDoorChecked
open Bool (and_eq_true)
namespace Go.Proofs
open Go.Gb Go.RowKit
structure pQ where
 op:Int
 n:Int
 s:ByteArray
 key:ByteArray
 args:(List pQ)
mutual
def zh:pQ->List Tree
 |⟨f0,f1,f2,f3,f4⟩=>[.sc (.int .i64 f0),.sc (.int .i64 f1),.sc (.string f2),.sc (.string f3),.sl (Km f4)]
def Km:List pQ->List (List Tree)
 |[]=>[]
 |x::xs=>zh x::Km xs
end
theorem Kn:∀ l:List pQ,Km l=l.map zh
 |[]=>rfl
 |x::xs=>by rw[Km,Kn xs];rfl
theorem Sk (x:pQ):zh x=[.sc (.int .i64 x.op),.sc (.int .i64 x.n),.sc (.string x.s),.sc (.string x.key),.sl (x.args.map zh)]:=by cases x;simp only[zh,Kn]
structure agu where
 name:ByteArray
 body_op:Int
 body_n:Int
 body_s:ByteArray
 body_key:ByteArray
 body_args:(List pQ)
def abJ (x:agu):List Tree:=[.sc (.string x.name),.sc (.int .i64 x.body_op),.sc (.int .i64 x.body_n),.sc (.string x.body_s),.sc (.string x.body_key),.sl (x.body_args.map zh)]
structure XB where
 name:ByteArray
 n:Int
 deriving DecidableEq,Inhabited
def Sl (x:XB):List Tree:=[.sc (.string x.name),.sc (.int .i64 x.n)]
structure XC where
 name:ByteArray
 rows:(List XB)
 else_:Int
 deriving DecidableEq,Inhabited
def Sm (x:XC):List Tree:=[.sc (.string x.name),.sl (x.rows.map Sl),.sc (.int .i64 x.else_)]
structure bM where
 x:Int
 y:Int
 deriving DecidableEq,Inhabited
def Sn (x:bM):List Tree:=[.sc (.int .i64 x.x),.sc (.int .i64 x.y)]
structure vL where
 name:ByteArray
 overlay:Bool
 corners:(List bM)
 deriving DecidableEq,Inhabited
def XD (x:vL):List Tree:=[.sc (.string x.name),.sc (.bool x.overlay),.sl (x.corners.map Sn)]
structure eU where
 name:ByteArray
 zones:(List ByteArray)
 except:(List ByteArray)
 from_:Int
 until_:Int
 grace:Int
 vary:Bool
 kind:Int
 test_op:Int
 test_n:Int
 test_s:ByteArray
 test_key:ByteArray
 test_args:(List pQ)
 plane_side:Int
 plane_base:Int
 plane_num:Int
 plane_den:Int
 uses:Int
 other:Int
 n:Int
def XE (x:eU):List Tree:=[.sc (.string x.name),.sl (x.zones.map (fun y=>[.sc (.string y)])),.sl (x.except.map (fun y=>[.sc (.string y)])),.sc (.int .i64 x.from_),.sc (.int .i64 x.until_),.sc (.int .i64 x.grace),.sc (.bool x.vary),.sc (.int .i64 x.kind),.sc (.int .i64 x.test_op),.sc (.int .i64 x.test_n),.sc (.string x.test_s),.sc (.string x.test_key),.sl (x.test_args.map zh),.sc (.int .i64 x.plane_side),.sc (.int .i64 x.plane_base),.sc (.int .i64 x.plane_num),.sc (.int .i64 x.plane_den),.sc (.int .i64 x.uses),.sc (.int .i64 x.other),.sc (.int .i64 x.n)]
structure agv where
 name:ByteArray
 load:Int
 limit:Int
 corners:(List bM)
 deriving DecidableEq,Inhabited
def abK (x:agv):List Tree:=[.sc (.string x.name),.sc (.int .i64 x.load),.sc (.int .i64 x.limit),.sl (x.corners.map Sn)]
structure Ko where
 x:Int
 y:Int
 z:Int
 deriving DecidableEq,Inhabited
def Gr (x:Ko):List Tree:=[.sc (.int .i64 x.x),.sc (.int .i64 x.y),.sc (.int .i64 x.z)]
structure acY where
 name:ByteArray
 eye_x:Int
 eye_y:Int
 eye_z:Int
 least:Int
 targets:(List Ko)
 deriving DecidableEq,Inhabited
def XF (x:acY):List Tree:=[.sc (.string x.name),.sc (.int .i64 x.eye_x),.sc (.int .i64 x.eye_y),.sc (.int .i64 x.eye_z),.sc (.int .i64 x.least),.sl (x.targets.map Gr)]
structure aj where
 x0:Int
 y0:Int
 x1:Int
 y1:Int
 deriving DecidableEq,Inhabited
def ja (x:aj):List Tree:=[.sc (.int .i64 x.x0),.sc (.int .i64 x.y0),.sc (.int .i64 x.x1),.sc (.int .i64 x.y1)]
structure uf where
 id:Int
 owner:Int
 area:(List aj)
 from_:(List Int)
 deriving DecidableEq,Inhabited
def abL (x:uf):List Tree:=[.sc (.int .i64 x.id),.sc (.int .i64 x.owner),.sl (x.area.map ja),.sl (x.from_.map (fun y=>[.sc (.int .i64 y)]))]
structure aV where
 lot:Int
 area:(List aj)
 top:Int
 deriving DecidableEq,Inhabited
def Ov (x:aV):List Tree:=[.sc (.int .i64 x.lot),.sl (x.area.map ja),.sc (.int .i64 x.top)]
structure XG where
 lot:Int
 at_x:Int
 at_y:Int
 at_z:Int
 deriving DecidableEq,Inhabited
def VW (x:XG):List Tree:=[.sc (.int .i64 x.lot),.sc (.int .i64 x.at_x),.sc (.int .i64 x.at_y),.sc (.int .i64 x.at_z)]
structure XH where
 lot:Int
 volume_box_base_x0:Int
 volume_box_base_y0:Int
 volume_box_base_x1:Int
 volume_box_base_y1:Int
 volume_box_z0:Int
 volume_box_z1:Int
 volume_use:Int
 volume_units:Int
 volume_extra:Bool
 deriving DecidableEq,Inhabited
def VX (x:XH):List Tree:=[.sc (.int .i64 x.lot),.sc (.int .i64 x.volume_box_base_x0),.sc (.int .i64 x.volume_box_base_y0),.sc (.int .i64 x.volume_box_base_x1),.sc (.int .i64 x.volume_box_base_y1),.sc (.int .i64 x.volume_box_z0),.sc (.int .i64 x.volume_box_z1),.sc (.int .i64 x.volume_use),.sc (.int .i64 x.volume_units),.sc (.bool x.volume_extra)]
structure dR where
 plan_defs:(List agu)
 plan_tables:(List XC)
 plan_zones:(List vL)
 plan_rules:(List eU)
 plan_caps:(List agv)
 plan_views:(List acY)
 plan_sun:(List Ko)
 plan_hours:Int
 land:(List uf)
 easements:(List aV)
 windows:(List XG)
 built:(List XH)
 base:(List XB)
def agw (x:dR):List Tree:=[.sl (x.plan_defs.map abJ),.sl (x.plan_tables.map Sm),.sl (x.plan_zones.map XD),.sl (x.plan_rules.map XE),.sl (x.plan_caps.map abK),.sl (x.plan_views.map XF),.sl (x.plan_sun.map Gr),.sc (.int .i64 x.plan_hours),.sl (x.land.map abL),.sl (x.easements.map Ov),.sl (x.windows.map VW),.sl (x.built.map VX),.sl (x.base.map Sl)]
structure aC where
 from_:Int
 to:Int
 deriving DecidableEq,Inhabited
def acZ (x:aC):List Tree:=[.sc (.int .i64 x.from_),.sc (.int .i64 x.to)]
structure aI where
 x0:Int
 x1:Int
 column:(List aC)
 deriving DecidableEq,Inhabited
def afn (x:aI):List Tree:=[.sc (.int .i64 x.x0),.sc (.int .i64 x.x1),.sl (x.column.map acZ)]
structure gB where
 a_x:Int
 a_y:Int
 b_x:Int
 b_y:Int
 deriving DecidableEq,Inhabited
def agx (x:gB):List Tree:=[.sc (.int .i64 x.a_x),.sc (.int .i64 x.a_y),.sc (.int .i64 x.b_x),.sc (.int .i64 x.b_y)]
structure xM where
 defs:(List agu)
 tables:(List XC)
 zones:(List vL)
 rules:(List eU)
 caps:(List agv)
 views:(List acY)
 sun:(List Ko)
 hours:Int
def agy (x:xM):List Tree:=[.sl (x.defs.map abJ),.sl (x.tables.map Sm),.sl (x.zones.map XD),.sl (x.rules.map XE),.sl (x.caps.map abK),.sl (x.views.map XF),.sl (x.sun.map Gr),.sc (.int .i64 x.hours)]
structure aK where
 from_:Int
 to:Int
 deriving DecidableEq,Inhabited
def Bh (x:aK):List Tree:=[.sc (.int .i64 x.from_),.sc (.int .i64 x.to)]
structure aX where
 x0:Int
 x1:Int
 column:(List aK)
 deriving DecidableEq,Inhabited
def Kq (x:aX):List Tree:=[.sc (.int .i64 x.x0),.sc (.int .i64 x.x1),.sl (x.column.map Bh)]
structure aW where
 side:Int
 base:Int
 num:Int
 den:Int
 deriving DecidableEq,Inhabited
def afo (x:aW):List Tree:=[.sc (.int .i64 x.side),.sc (.int .i64 x.base),.sc (.int .i64 x.num),.sc (.int .i64 x.den)]
structure aQ where
 z0:Int
 z1:Int
 area:(List aj)
 deriving DecidableEq,Inhabited
def agz (x:aQ):List Tree:=[.sc (.int .i64 x.z0),.sc (.int .i64 x.z1),.sl (x.area.map ja)]
structure ug where
 base_x0:Int
 base_y0:Int
 base_x1:Int
 base_y1:Int
 z0:Int
 z1:Int
 deriving DecidableEq,Inhabited
def ahy (x:ug):List Tree:=[.sc (.int .i64 x.base_x0),.sc (.int .i64 x.base_y0),.sc (.int .i64 x.base_x1),.sc (.int .i64 x.base_y1),.sc (.int .i64 x.z0),.sc (.int .i64 x.z1)]
structure Kr where
 a0:Int
 a1:Int
 a2:Int
 a3:Int
 deriving DecidableEq,Inhabited
def adS (x:Kr):List Tree:=[.sc (.int .i64 x.a0),.sc (.int .i64 x.a1),.sc (.int .i64 x.a2),.sc (.int .i64 x.a3)]
inductive SI where
 |Expr
 |Def
 |Entry
 |Table
 |Point
 |Zone
 |Rule
 |Cap
 |Point3
 |View
 |Rect
 |Lot
 |Easement
 |Window
 |Placed
 |Town
 |span
 |strip
 |side
 |Plan
 |ospan
 |slab
 |Plane
 |Slab
 |Box
 |A4_i64
 deriving DecidableEq
@[reducible] def TT:SI->Type
 | .Expr=>pQ
 | .Def=>agu
 | .Entry=>XB
 | .Table=>XC
 | .Point=>bM
 | .Zone=>vL
 | .Rule=>eU
 | .Cap=>agv
 | .Point3=>Ko
 | .View=>acY
 | .Rect=>aj
 | .Lot=>uf
 | .Easement=>aV
 | .Window=>XG
 | .Placed=>XH
 | .Town=>dR
 | .span=>aC
 | .strip=>aI
 | .side=>gB
 | .Plan=>xM
 | .ospan=>aK
 | .slab=>aX
 | .Plane=>aW
 | .Slab=>aQ
 | .Box=>ug
 | .A4_i64=>Kr
def aiw:(i:SI)->TT i->List Tree
 | .Expr,x=>zh x
 | .Def,x=>abJ x
 | .Entry,x=>Sl x
 | .Table,x=>Sm x
 | .Point,x=>Sn x
 | .Zone,x=>XD x
 | .Rule,x=>XE x
 | .Cap,x=>abK x
 | .Point3,x=>Gr x
 | .View,x=>XF x
 | .Rect,x=>ja x
 | .Lot,x=>abL x
 | .Easement,x=>Ov x
 | .Window,x=>VW x
 | .Placed,x=>VX x
 | .Town,x=>agw x
 | .span,x=>acZ x
 | .strip,x=>afn x
 | .side,x=>agx x
 | .Plan,x=>agy x
 | .ospan,x=>Bh x
 | .slab,x=>Kq x
 | .Plane,x=>afo x
 | .Slab,x=>agz x
 | .Box,x=>ahy x
 | .A4_i64,x=>adS x
def se:SE:=⟨SI,inferInstance,TT,aiw⟩
def ahz:SI->List (CT SI)
 | .Expr=>[(.int .i64),(.int .i64),.str,.str,(.sl (.st SI.Expr))]
 | .Def=>[.str,(.int .i64),(.int .i64),.str,.str,(.sl (.st SI.Expr))]
 | .Entry=>[.str,(.int .i64)]
 | .Table=>[.str,(.sl (.st SI.Entry)),(.int .i64)]
 | .Point=>[(.int .i64),(.int .i64)]
 | .Zone=>[.str,.bool,(.sl (.st SI.Point))]
 | .Rule=>[.str,(.sl .str),(.sl .str),(.int .i64),(.int .i64),(.int .i64),.bool,(.int .i64),(.int .i64),(.int .i64),.str,.str,(.sl (.st SI.Expr)),(.int .i64),(.int .i64),(.int .i64),(.int .i64),(.int .i64),(.int .i64),(.int .i64)]
 | .Cap=>[.str,(.int .i64),(.int .i64),(.sl (.st SI.Point))]
 | .Point3=>[(.int .i64),(.int .i64),(.int .i64)]
 | .View=>[.str,(.int .i64),(.int .i64),(.int .i64),(.int .i64),(.sl (.st SI.Point3))]
 | .Rect=>[(.int .i64),(.int .i64),(.int .i64),(.int .i64)]
 | .Lot=>[(.int .i64),(.int .i64),(.sl (.st SI.Rect)),(.sl (.int .i64))]
 | .Easement=>[(.int .i64),(.sl (.st SI.Rect)),(.int .i64)]
 | .Window=>[(.int .i64),(.int .i64),(.int .i64),(.int .i64)]
 | .Placed=>[(.int .i64),(.int .i64),(.int .i64),(.int .i64),(.int .i64),(.int .i64),(.int .i64),(.int .i64),(.int .i64),.bool]
 | .Town=>[(.sl (.st SI.Def)),(.sl (.st SI.Table)),(.sl (.st SI.Zone)),(.sl (.st SI.Rule)),(.sl (.st SI.Cap)),(.sl (.st SI.View)),(.sl (.st SI.Point3)),(.int .i64),(.sl (.st SI.Lot)),(.sl (.st SI.Easement)),(.sl (.st SI.Window)),(.sl (.st SI.Placed)),(.sl (.st SI.Entry))]
 | .span=>[(.int .i64),(.int .i64)]
 | .strip=>[(.int .i64),(.int .i64),(.sl (.st SI.span))]
 | .side=>[(.int .i64),(.int .i64),(.int .i64),(.int .i64)]
 | .Plan=>[(.sl (.st SI.Def)),(.sl (.st SI.Table)),(.sl (.st SI.Zone)),(.sl (.st SI.Rule)),(.sl (.st SI.Cap)),(.sl (.st SI.View)),(.sl (.st SI.Point3)),(.int .i64)]
 | .ospan=>[(.int .i64),(.int .i64)]
 | .slab=>[(.int .i64),(.int .i64),(.sl (.st SI.ospan))]
 | .Plane=>[(.int .i64),(.int .i64),(.int .i64),(.int .i64)]
 | .Slab=>[(.int .i64),(.int .i64),(.sl (.st SI.Rect))]
 | .Box=>[(.int .i64),(.int .i64),(.int .i64),(.int .i64),(.int .i64),(.int .i64)]
 | .A4_i64=>[(.int .i64),(.int .i64),(.int .i64),(.int .i64)]
def aix:(i:SI)->TT i->HL se (ahz i)
 | .Expr,x=>(x.op,x.n,x.s,x.key,x.args,())
 | .Def,x=>(x.name,x.body_op,x.body_n,x.body_s,x.body_key,x.body_args,())
 | .Entry,x=>(x.name,x.n,())
 | .Table,x=>(x.name,x.rows,x.else_,())
 | .Point,x=>(x.x,x.y,())
 | .Zone,x=>(x.name,x.overlay,x.corners,())
 | .Rule,x=>(x.name,x.zones,x.except,x.from_,x.until_,x.grace,x.vary,x.kind,x.test_op,x.test_n,x.test_s,x.test_key,x.test_args,x.plane_side,x.plane_base,x.plane_num,x.plane_den,x.uses,x.other,x.n,())
 | .Cap,x=>(x.name,x.load,x.limit,x.corners,())
 | .Point3,x=>(x.x,x.y,x.z,())
 | .View,x=>(x.name,x.eye_x,x.eye_y,x.eye_z,x.least,x.targets,())
 | .Rect,x=>(x.x0,x.y0,x.x1,x.y1,())
 | .Lot,x=>(x.id,x.owner,x.area,x.from_,())
 | .Easement,x=>(x.lot,x.area,x.top,())
 | .Window,x=>(x.lot,x.at_x,x.at_y,x.at_z,())
 | .Placed,x=>(x.lot,x.volume_box_base_x0,x.volume_box_base_y0,x.volume_box_base_x1,x.volume_box_base_y1,x.volume_box_z0,x.volume_box_z1,x.volume_use,x.volume_units,x.volume_extra,())
 | .Town,x=>(x.plan_defs,x.plan_tables,x.plan_zones,x.plan_rules,x.plan_caps,x.plan_views,x.plan_sun,x.plan_hours,x.land,x.easements,x.windows,x.built,x.base,())
 | .span,x=>(x.from_,x.to,())
 | .strip,x=>(x.x0,x.x1,x.column,())
 | .side,x=>(x.a_x,x.a_y,x.b_x,x.b_y,())
 | .Plan,x=>(x.defs,x.tables,x.zones,x.rules,x.caps,x.views,x.sun,x.hours,())
 | .ospan,x=>(x.from_,x.to,())
 | .slab,x=>(x.x0,x.x1,x.column,())
 | .Plane,x=>(x.side,x.base,x.num,x.den,())
 | .Slab,x=>(x.z0,x.z1,x.area,())
 | .Box,x=>(x.base_x0,x.base_y0,x.base_x1,x.base_y1,x.z0,x.z1,())
 | .A4_i64,x=>(x.a0,x.a1,x.a2,x.a3,())
def ah6:(i:SI)->HL se (ahz i)->TT i
 | .Expr,h=>⟨h.1,h.2.1,h.2.2.1,h.2.2.2.1,h.2.2.2.2.1⟩
 | .Def,h=>⟨h.1,h.2.1,h.2.2.1,h.2.2.2.1,h.2.2.2.2.1,h.2.2.2.2.2.1⟩
 | .Entry,h=>⟨h.1,h.2.1⟩
 | .Table,h=>⟨h.1,h.2.1,h.2.2.1⟩
 | .Point,h=>⟨h.1,h.2.1⟩
 | .Zone,h=>⟨h.1,h.2.1,h.2.2.1⟩
 | .Rule,h=>⟨h.1,h.2.1,h.2.2.1,h.2.2.2.1,h.2.2.2.2.1,h.2.2.2.2.2.1,h.2.2.2.2.2.2.1,h.2.2.2.2.2.2.2.1,h.2.2.2.2.2.2.2.2.1,h.2.2.2.2.2.2.2.2.2.1,h.2.2.2.2.2.2.2.2.2.2.1,h.2.2.2.2.2.2.2.2.2.2.2.1,h.2.2.2.2.2.2.2.2.2.2.2.2.1,h.2.2.2.2.2.2.2.2.2.2.2.2.2.1,h.2.2.2.2.2.2.2.2.2.2.2.2.2.2.1,h.2.2.2.2.2.2.2.2.2.2.2.2.2.2.2.1,h.2.2.2.2.2.2.2.2.2.2.2.2.2.2.2.2.1,h.2.2.2.2.2.2.2.2.2.2.2.2.2.2.2.2.2.1,h.2.2.2.2.2.2.2.2.2.2.2.2.2.2.2.2.2.2.1,h.2.2.2.2.2.2.2.2.2.2.2.2.2.2.2.2.2.2.2.1⟩
 | .Cap,h=>⟨h.1,h.2.1,h.2.2.1,h.2.2.2.1⟩
 | .Point3,h=>⟨h.1,h.2.1,h.2.2.1⟩
 | .View,h=>⟨h.1,h.2.1,h.2.2.1,h.2.2.2.1,h.2.2.2.2.1,h.2.2.2.2.2.1⟩
 | .Rect,h=>⟨h.1,h.2.1,h.2.2.1,h.2.2.2.1⟩
 | .Lot,h=>⟨h.1,h.2.1,h.2.2.1,h.2.2.2.1⟩
 | .Easement,h=>⟨h.1,h.2.1,h.2.2.1⟩
 | .Window,h=>⟨h.1,h.2.1,h.2.2.1,h.2.2.2.1⟩
 | .Placed,h=>⟨h.1,h.2.1,h.2.2.1,h.2.2.2.1,h.2.2.2.2.1,h.2.2.2.2.2.1,h.2.2.2.2.2.2.1,h.2.2.2.2.2.2.2.1,h.2.2.2.2.2.2.2.2.1,h.2.2.2.2.2.2.2.2.2.1⟩
 | .Town,h=>⟨h.1,h.2.1,h.2.2.1,h.2.2.2.1,h.2.2.2.2.1,h.2.2.2.2.2.1,h.2.2.2.2.2.2.1,h.2.2.2.2.2.2.2.1,h.2.2.2.2.2.2.2.2.1,h.2.2.2.2.2.2.2.2.2.1,h.2.2.2.2.2.2.2.2.2.2.1,h.2.2.2.2.2.2.2.2.2.2.2.1,h.2.2.2.2.2.2.2.2.2.2.2.2.1⟩
 | .span,h=>⟨h.1,h.2.1⟩
 | .strip,h=>⟨h.1,h.2.1,h.2.2.1⟩
 | .side,h=>⟨h.1,h.2.1,h.2.2.1,h.2.2.2.1⟩
 | .Plan,h=>⟨h.1,h.2.1,h.2.2.1,h.2.2.2.1,h.2.2.2.2.1,h.2.2.2.2.2.1,h.2.2.2.2.2.2.1,h.2.2.2.2.2.2.2.1⟩
 | .ospan,h=>⟨h.1,h.2.1⟩
 | .slab,h=>⟨h.1,h.2.1,h.2.2.1⟩
 | .Plane,h=>⟨h.1,h.2.1,h.2.2.1,h.2.2.2.1⟩
 | .Slab,h=>⟨h.1,h.2.1,h.2.2.1⟩
 | .Box,h=>⟨h.1,h.2.1,h.2.2.1,h.2.2.2.1,h.2.2.2.2.1,h.2.2.2.2.2.1⟩
 | .A4_i64,h=>⟨h.1,h.2.1,h.2.2.1,h.2.2.2.1⟩
def gv0:aj:=⟨0,0,1048576,1048576⟩
def gvS:Nat->Option ((c:CT SI)×CT.T se c)
 | 0=>some ⟨(.st SI.Rect),gv0⟩
 |_=>none
def xx:SX:={ toSE:=se,tys:=ahz,get:=aix,make:=ah6,row_get:=by intro i x;cases i<;>first |rfl |exact Sk _,row_make:=by intro i h;cases i<;>first |rfl |exact Sk _,flat:=by intro i;cases i<;>rfl,gv:=gvS,gv_ok:=by intro g;match g with | 0=>rfl |_+1=>rfl }
def tab:List (TypeId×TyI):=[
 (3,⟨1,8,false,[.int .i64 0],.int .i64,[]⟩),
 (4,⟨1,1,false,[.bool false],.bool,[]⟩),
 (5,⟨1,1,false,[.int .u8 0],.int .u8,[]⟩),
 (9,⟨1,16,false,[.string ⟨#[]⟩],.str,[]⟩),
 (22,⟨1,24,false,[.slice none 0 0],.slice 272,[]⟩),
 (23,⟨1,24,false,[.slice none 0 0],.slice 274,[]⟩),
 (24,⟨1,24,false,[.slice none 0 0],.slice 162,[]⟩),
 (25,⟨1,24,false,[.slice none 0 0],.slice 61,[]⟩),
 (26,⟨1,24,false,[.slice none 0 0],.slice 276,[]⟩),
 (27,⟨1,24,false,[.slice none 0 0],.slice 280,[]⟩),
 (28,⟨1,24,false,[.slice none 0 0],.slice 278,[]⟩),
 (30,⟨8,176,true,[.slice none 0 0,.slice none 0 0,.slice none 0 0,.slice none 0 0,.slice none 0 0,.slice none 0 0,.slice none 0 0,.int .i64 0],.struct [(0,22),(1,23),(2,24),(3,25),(4,26),(5,27),(6,28),(7,3)],[]⟩),
 (31,⟨1,24,false,[.slice none 0 0],.slice 67,[]⟩),
 (32,⟨1,24,false,[.slice none 0 0],.slice 64,[]⟩),
 (33,⟨1,24,false,[.slice none 0 0],.slice 282,[]⟩),
 (34,⟨1,24,false,[.slice none 0 0],.slice 286,[]⟩),
 (35,⟨1,24,false,[.slice none 0 0],.slice 288,[]⟩),
 (37,⟨13,296,true,[.slice none 0 0,.slice none 0 0,.slice none 0 0,.slice none 0 0,.slice none 0 0,.slice none 0 0,.slice none 0 0,.int .i64 0,.slice none 0 0,.slice none 0 0,.slice none 0 0,.slice none 0 0,.slice none 0 0],.struct [(0,30),(8,31),(9,32),(10,33),(11,34),(12,35)],[]⟩),
 (38,⟨1,24,false,[.slice none 0 0],.slice 62,[]⟩),
 (47,⟨1,24,false,[.slice none 0 0],.slice 50,[]⟩),
 (50,⟨4,32,true,[.int .i64 0,.int .i64 0,.int .i64 0,.int .i64 0],.struct [(0,3),(1,3),(2,3),(3,3)],[0,0,0,0]⟩),
 (51,⟨1,24,false,[.slice none 0 0],.slice 98,[]⟩),
 (56,⟨1,24,false,[.slice none 0 0],.slice 9,[]⟩),
 (57,⟨1,24,false,[.slice none 0 0],.slice 59,[]⟩),
 (59,⟨5,72,true,[.int .i64 0,.int .i64 0,.string ⟨#[]⟩,.string ⟨#[]⟩,.slice none 0 0],.struct [(0,3),(1,3),(2,9),(3,9),(4,57)],[]⟩),
 (61,⟨20,232,true,[.string ⟨#[]⟩,.slice none 0 0,.slice none 0 0,.int .i64 0,.int .i64 0,.int .i64 0,.bool false,.int .i64 0,.int .i64 0,.int .i64 0,.string ⟨#[]⟩,.string ⟨#[]⟩,.slice none 0 0,.int .i64 0,.int .i64 0,.int .i64 0,.int .i64 0,.int .i64 0,.int .i64 0,.int .i64 0],.struct [(0,9),(1,56),(2,56),(3,3),(4,3),(5,3),(6,4),(7,3),(8,59),(13,50),(17,3),(18,3),(19,3)],[]⟩),
 (62,⟨1,24,false,[.slice none 0 0],.slice 73,[]⟩),
 (64,⟨3,40,true,[.int .i64 0,.slice none 0 0,.int .i64 0],.struct [(0,3),(1,62),(2,3)],[]⟩),
 (65,⟨1,24,false,[.slice none 0 0],.slice 3,[]⟩),
 (67,⟨4,64,true,[.int .i64 0,.int .i64 0,.slice none 0 0,.slice none 0 0],.struct [(0,3),(1,3),(2,62),(3,65)],[]⟩),
 (73,⟨4,32,true,[.int .i64 0,.int .i64 0,.int .i64 0,.int .i64 0],.struct [(0,3),(1,3),(2,3),(3,3)],[0,0,0,0]⟩),
 (98,⟨3,40,true,[.int .i64 0,.int .i64 0,.slice none 0 0],.struct [(0,3),(1,3),(2,62)],[]⟩),
 (103,⟨1,24,false,[.slice none 0 0],.slice 106,[]⟩),
 (106,⟨6,48,true,[.int .i64 0,.int .i64 0,.int .i64 0,.int .i64 0,.int .i64 0,.int .i64 0],.struct [(0,73),(4,3),(5,3)],[]⟩),
 (114,⟨1,24,false,[.slice none 0 0],.slice 118,[]⟩),
 (116,⟨1,24,false,[.slice none 0 0],.slice 124,[]⟩),
 (118,⟨3,40,true,[.int .i64 0,.int .i64 0,.slice none 0 0],.struct [(0,3),(1,3),(2,116)],[]⟩),
 (124,⟨2,16,true,[.int .i64 0,.int .i64 0],.struct [(0,3),(1,3)],[0,0]⟩),
 (145,⟨1,24,false,[.slice none 0 0],.slice 166,[]⟩),
 (150,⟨1,8,false,[.int .u64 0],.int .u64,[]⟩),
 (160,⟨1,24,false,[.slice none 0 0],.slice 196,[]⟩),
 (162,⟨3,48,true,[.string ⟨#[]⟩,.bool false,.slice none 0 0],.struct [(0,9),(1,4),(2,160)],[]⟩),
 (164,⟨1,24,false,[.slice none 0 0],.slice 175,[]⟩),
 (166,⟨3,40,true,[.int .i64 0,.int .i64 0,.slice none 0 0],.struct [(0,3),(1,3),(2,164)],[]⟩),
 (171,⟨4,32,true,[.int .i64 0,.int .i64 0,.int .i64 0,.int .i64 0],.arr 4 3,[]⟩),
 (175,⟨2,16,true,[.int .i64 0,.int .i64 0],.struct [(0,3),(1,3)],[0,0]⟩),
 (187,⟨1,4,false,[.int .u32 0],.int .u32,[]⟩),
 (189,⟨1,8,false,[.int .u64 0],.int .u64,[]⟩),
 (196,⟨2,16,true,[.int .i64 0,.int .i64 0],.struct [(0,3),(1,3)],[0,0]⟩),
 (209,⟨1,8,false,[.int .u64 0],.int .u64,[]⟩),
 (235,⟨1,24,false,[.slice none 0 0],.slice 238,[]⟩),
 (238,⟨4,32,true,[.int .i64 0,.int .i64 0,.int .i64 0,.int .i64 0],.struct [(0,196),(2,196)],[]⟩),
 (272,⟨6,88,true,[.string ⟨#[]⟩,.int .i64 0,.int .i64 0,.string ⟨#[]⟩,.string ⟨#[]⟩,.slice none 0 0],.struct [(0,9),(1,59)],[]⟩),
 (274,⟨3,48,true,[.string ⟨#[]⟩,.slice none 0 0,.int .i64 0],.struct [(0,9),(1,35),(2,3)],[]⟩),
 (276,⟨4,56,true,[.string ⟨#[]⟩,.int .i64 0,.int .i64 0,.slice none 0 0],.struct [(0,9),(1,3),(2,3),(3,160)],[]⟩),
 (278,⟨3,24,true,[.int .i64 0,.int .i64 0,.int .i64 0],.struct [(0,3),(1,3),(2,3)],[0,0,0]⟩),
 (280,⟨6,72,true,[.string ⟨#[]⟩,.int .i64 0,.int .i64 0,.int .i64 0,.int .i64 0,.slice none 0 0],.struct [(0,9),(1,278),(4,3),(5,28)],[]⟩),
 (282,⟨4,32,true,[.int .i64 0,.int .i64 0,.int .i64 0,.int .i64 0],.struct [(0,3),(1,278)],[]⟩),
 (284,⟨9,72,true,[.int .i64 0,.int .i64 0,.int .i64 0,.int .i64 0,.int .i64 0,.int .i64 0,.int .i64 0,.int .i64 0,.bool false],.struct [(0,106),(6,3),(7,3),(8,4)],[]⟩),
 (286,⟨10,80,true,[.int .i64 0,.int .i64 0,.int .i64 0,.int .i64 0,.int .i64 0,.int .i64 0,.int .i64 0,.int .i64 0,.int .i64 0,.bool false],.struct [(0,3),(1,284)],[]⟩),
 (288,⟨2,24,true,[.string ⟨#[]⟩,.int .i64 0],.struct [(0,9),(1,3)],[2,0]⟩)]
def ah7:List (TypeId×CT SI):=[(3,(.int .i64)),(9,.str),(50,(.st SI.Plane)),(59,(.st SI.Expr)),(61,(.st SI.Rule)),(62,(.sl (.st SI.Rect))),(64,(.st SI.Easement)),(67,(.st SI.Lot)),(73,(.st SI.Rect)),(98,(.st SI.Slab)),(106,(.st SI.Box)),(124,(.st SI.ospan)),(166,(.st SI.strip)),(175,(.st SI.span)),(238,(.st SI.side))]
def ag8:TypeId->Option (CT xx.ι):=lk ah7
theorem lW:dH Tryz.prog (kP tab):=aeL (by kernel_rfl)
theorem mixed:Tryz.prog.follows .mixedOrders=true:=Checked.mixed Tryz.checked
theorem cq {f:FuncId} {fn:Func} {l:List (FuncId×Sig xx)} (hΓ:GOk Tryz.prog (gam l)) (hfn:Tryz.prog.funcs[f]? =some fn) {s:Sig xx} (h:Hn SI) (n:Nat)
 (hq : (fn.body.isSome && !(fn.name == "runtime.NumGoroutine") && decide (s.args.length <= fn.ntmps ∧ nM s.args <= 1000 ∧ (s.res.filter RT.out).length = nM s.args)) = true) (hg : s.gen = none)
 (hr:∀ a,run (gam l) (kP tab) ag8 fn.ntmps n (fn.body.getD .skip) (p9 xx s.res) h (ini s.args a) (ah1 (kP tab) fn.results.toList s.res)=s.fn a):COk Tryz.prog f s:=by
 rw[and_eq_true,and_eq_true]at hq;obtain⟨⟨q1,q2⟩,q3⟩:=hq;have hb:fn.body=some (fn.body.getD .skip):=by
  cases hc:fn.body with
  |none=>rw[hc]at q1;cases q1
  |some c=>rfl
 have hn : (fn.name == "runtime.NumGoroutine") = false := by simpa using q2
 exact cok (pK hfn hb hn) (fun a _ e=>ah2 lW mixed hΓ hfn hb hn _ _ (of_decide_eq_true q3) h n ((hr a).trans e)) hg
theorem cqG {f:FuncId} {fn:Func} {l:List (FuncId×Sig xx)} (hΓ:GOk Tryz.prog (gam l)) (hfn:Tryz.prog.funcs[f]? =some fn) {g:GSig xx} (h:Hn SI) (n:Nat)
 (hq : (fn.body.isSome && !(fn.name == "runtime.NumGoroutine") && decide (g.inP.length <= fn.ntmps) && g.inOk) = true)
 (hr:∀ v,run (gam l) (kP tab) ag8 fn.ntmps n (fn.body.getD .skip) (VT (X:=xx) (ze g).vars) h (adE g v) (ag5 (kP tab) fn.results.toList g)=g.fn v):COk Tryz.prog f ⟨[],[.d .bool],fun _=>none,some g⟩:=by
 rw[and_eq_true,and_eq_true,and_eq_true]at hq;obtain⟨⟨⟨q1,q2⟩,q3⟩,q4⟩:=hq;have hb:fn.body=some (fn.body.getD .skip):=by
  cases hc:fn.body with
  |none=>rw[hc]at q1;cases q1
  |some c=>rfl
 have hn : (fn.name == "runtime.NumGoroutine") = false := by simpa using q2
 exact ait (pK hfn hb hn) (ahu lW mixed hΓ hfn hb hn g (of_decide_eq_true q3) q4 h n (fun v _ e=>(hr v).trans e))
theorem gcn:GOk Tryz.prog (gam ([]:List (FuncId×Sig xx))):=aA
abbrev ah:CT SI:=.int .i64
abbrev ak:CT SI:=.st SI.Rect
abbrev bX:CT SI:=.st SI.Plane
abbrev dJ:CT SI:=.st SI.Slab
abbrev aH (f:Nat) (s:Sig xx):Prop:=COk Tryz.prog f s
end Go.Proofs
