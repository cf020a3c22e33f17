/-
  Printed by wip/gen: what functions of the program compute, and that they do.
-/
import Derived.Test.YtccijnckfbanfaaGreatDoorL1
import Derived.Test.YtccijnckfbanfaaGreatDoorChecked
open Bool (and_eq_true)
namespace Go.Proofs
open Go.Gb Go.RowKit
structure pE where
 op:Int
 n:Int
 s:ByteArray
 key:ByteArray
 args:(List pE)
mutual
def yP:pE->List Tree
 |⟨f0,f1,f2,f3,f4⟩=>[.sc (.int .i64 f0),.sc (.int .i64 f1),.sc (.string f2),.sc (.string f3),.sl (JD f4)]
def JD:List pE->List (List Tree)
 |[]=>[]
 |x::xs=>yP x::JD xs
end
theorem JE:∀ l:List pE,JD l=l.map yP
 |[]=>rfl
 |x::xs=>by rw[JD,JE xs];rfl
theorem Rj (x:pE):yP x=[.sc (.int .i64 x.op),.sc (.int .i64 x.n),.sc (.string x.s),.sc (.string x.key),.sl (x.args.map yP)]:=by cases x;simp only[yP,JE]
structure afm where
 name:ByteArray
 body_op:Int
 body_n:Int
 body_s:ByteArray
 body_key:ByteArray
 body_args:(List pE)
def aaP (x:afm):List Tree:=[.sc (.string x.name),.sc (.int .i64 x.body_op),.sc (.int .i64 x.body_n),.sc (.string x.body_s),.sc (.string x.body_key),.sl (x.body_args.map yP)]
structure WK where
 name:ByteArray
 n:Int
 deriving DecidableEq,Inhabited
def Rk (x:WK):List Tree:=[.sc (.string x.name),.sc (.int .i64 x.n)]
structure WL where
 name:ByteArray
 rows:(List WK)
 else_:Int
 deriving DecidableEq,Inhabited
def Rl (x:WL):List Tree:=[.sc (.string x.name),.sl (x.rows.map Rk),.sc (.int .i64 x.else_)]
structure bM where
 x:Int
 y:Int
 deriving DecidableEq,Inhabited
def Rm (x:bM):List Tree:=[.sc (.int .i64 x.x),.sc (.int .i64 x.y)]
structure ve where
 name:ByteArray
 overlay:Bool
 corners:(List bM)
 deriving DecidableEq,Inhabited
def WM (x:ve):List Tree:=[.sc (.string x.name),.sc (.bool x.overlay),.sl (x.corners.map Rm)]
structure dD where
 name:ByteArray
 zones:(List ByteArray)
 except:(List ByteArray)
 from_:Int
 until_:Int
 grace:Int
 vary:Bool
 kind:Int
 test_op:Int
 test_n:Int
 test_s:ByteArray
 test_key:ByteArray
 test_args:(List pE)
 plane_side:Int
 plane_base:Int
 plane_num:Int
 plane_den:Int
 uses:Int
 other:Int
 n:Int
def O7 (x:dD):List Tree:=[.sc (.string x.name),.sl (x.zones.map (fun y=>[.sc (.string y)])),.sl (x.except.map (fun y=>[.sc (.string y)])),.sc (.int .i64 x.from_),.sc (.int .i64 x.until_),.sc (.int .i64 x.grace),.sc (.bool x.vary),.sc (.int .i64 x.kind),.sc (.int .i64 x.test_op),.sc (.int .i64 x.test_n),.sc (.string x.test_s),.sc (.string x.test_key),.sl (x.test_args.map yP),.sc (.int .i64 x.plane_side),.sc (.int .i64 x.plane_base),.sc (.int .i64 x.plane_num),.sc (.int .i64 x.plane_den),.sc (.int .i64 x.uses),.sc (.int .i64 x.other),.sc (.int .i64 x.n)]
structure afn where
 name:ByteArray
 load:Int
 limit:Int
 corners:(List bM)
 deriving DecidableEq,Inhabited
def aaQ (x:afn):List Tree:=[.sc (.string x.name),.sc (.int .i64 x.load),.sc (.int .i64 x.limit),.sl (x.corners.map Rm)]
structure JF where
 x:Int
 y:Int
 z:Int
 deriving DecidableEq,Inhabited
def FU (x:JF):List Tree:=[.sc (.int .i64 x.x),.sc (.int .i64 x.y),.sc (.int .i64 x.z)]
structure ab0 where
 name:ByteArray
 eye_x:Int
 eye_y:Int
 eye_z:Int
 least:Int
 targets:(List JF)
 deriving DecidableEq,Inhabited
def WN (x:ab0):List Tree:=[.sc (.string x.name),.sc (.int .i64 x.eye_x),.sc (.int .i64 x.eye_y),.sc (.int .i64 x.eye_z),.sc (.int .i64 x.least),.sl (x.targets.map FU)]
structure aj where
 x0:Int
 y0:Int
 x1:Int
 y1:Int
 deriving DecidableEq,Inhabited
def iW (x:aj):List Tree:=[.sc (.int .i64 x.x0),.sc (.int .i64 x.y0),.sc (.int .i64 x.x1),.sc (.int .i64 x.y1)]
structure qE where
 id:Int
 owner:Int
 area:(List aj)
 from_:(List Int)
 deriving DecidableEq,Inhabited
def aaR (x:qE):List Tree:=[.sc (.int .i64 x.id),.sc (.int .i64 x.owner),.sl (x.area.map iW),.sl (x.from_.map (fun y=>[.sc (.int .i64 y)]))]
structure aP where
 lot:Int
 area:(List aj)
 top:Int
 deriving DecidableEq,Inhabited
def EF (x:aP):List Tree:=[.sc (.int .i64 x.lot),.sl (x.area.map iW),.sc (.int .i64 x.top)]
structure WO where
 lot:Int
 at_x:Int
 at_y:Int
 at_z:Int
 deriving DecidableEq,Inhabited
def U9 (x:WO):List Tree:=[.sc (.int .i64 x.lot),.sc (.int .i64 x.at_x),.sc (.int .i64 x.at_y),.sc (.int .i64 x.at_z)]
structure WQ where
 lot:Int
 volume_box_base_x0:Int
 volume_box_base_y0:Int
 volume_box_base_x1:Int
 volume_box_base_y1:Int
 volume_box_z0:Int
 volume_box_z1:Int
 volume_use:Int
 volume_units:Int
 volume_extra:Bool
 deriving DecidableEq,Inhabited
def Va (x:WQ):List Tree:=[.sc (.int .i64 x.lot),.sc (.int .i64 x.volume_box_base_x0),.sc (.int .i64 x.volume_box_base_y0),.sc (.int .i64 x.volume_box_base_x1),.sc (.int .i64 x.volume_box_base_y1),.sc (.int .i64 x.volume_box_z0),.sc (.int .i64 x.volume_box_z1),.sc (.int .i64 x.volume_use),.sc (.int .i64 x.volume_units),.sc (.bool x.volume_extra)]
structure bK where
 plan_defs:(List afm)
 plan_tables:(List WL)
 plan_zones:(List ve)
 plan_rules:(List dD)
 plan_caps:(List afn)
 plan_views:(List ab0)
 plan_sun:(List JF)
 plan_hours:Int
 land:(List qE)
 easements:(List aP)
 windows:(List WO)
 built:(List WQ)
 base:(List WK)
def afo (x:bK):List Tree:=[.sl (x.plan_defs.map aaP),.sl (x.plan_tables.map Rl),.sl (x.plan_zones.map WM),.sl (x.plan_rules.map O7),.sl (x.plan_caps.map aaQ),.sl (x.plan_views.map WN),.sl (x.plan_sun.map FU),.sc (.int .i64 x.plan_hours),.sl (x.land.map aaR),.sl (x.easements.map EF),.sl (x.windows.map U9),.sl (x.built.map Va),.sl (x.base.map Rk)]
structure ax where
 from_:Int
 to:Int
 deriving DecidableEq,Inhabited
def ab1 (x:ax):List Tree:=[.sc (.int .i64 x.from_),.sc (.int .i64 x.to)]
structure aF where
 x0:Int
 x1:Int
 column:(List ax)
 deriving DecidableEq,Inhabited
def ael (x:aF):List Tree:=[.sc (.int .i64 x.x0),.sc (.int .i64 x.x1),.sl (x.column.map ab1)]
structure fV where
 a_x:Int
 a_y:Int
 b_x:Int
 b_y:Int
 deriving DecidableEq,Inhabited
def afp (x:fV):List Tree:=[.sc (.int .i64 x.a_x),.sc (.int .i64 x.a_y),.sc (.int .i64 x.b_x),.sc (.int .i64 x.b_y)]
structure wX where
 defs:(List afm)
 tables:(List WL)
 zones:(List ve)
 rules:(List dD)
 caps:(List afn)
 views:(List ab0)
 sun:(List JF)
 hours:Int
def afq (x:wX):List Tree:=[.sl (x.defs.map aaP),.sl (x.tables.map Rl),.sl (x.zones.map WM),.sl (x.rules.map O7),.sl (x.caps.map aaQ),.sl (x.views.map WN),.sl (x.sun.map FU),.sc (.int .i64 x.hours)]
structure aM where
 from_:Int
 to:Int
 deriving DecidableEq,Inhabited
def AB (x:aM):List Tree:=[.sc (.int .i64 x.from_),.sc (.int .i64 x.to)]
structure aX where
 x0:Int
 x1:Int
 column:(List aM)
 deriving DecidableEq,Inhabited
def JG (x:aX):List Tree:=[.sc (.int .i64 x.x0),.sc (.int .i64 x.x1),.sl (x.column.map AB)]
structure bE where
 side:Int
 base:Int
 num:Int
 den:Int
 deriving DecidableEq,Inhabited
def aem (x:bE):List Tree:=[.sc (.int .i64 x.side),.sc (.int .i64 x.base),.sc (.int .i64 x.num),.sc (.int .i64 x.den)]
structure vg where
 z0:Int
 z1:Int
 area:(List aj)
 deriving DecidableEq,Inhabited
def afr (x:vg):List Tree:=[.sc (.int .i64 x.z0),.sc (.int .i64 x.z1),.sl (x.area.map iW)]
inductive SI where
 |Expr
 |Def
 |Entry
 |Table
 |Point
 |Zone
 |Rule
 |Cap
 |Point3
 |View
 |Rect
 |Lot
 |Easement
 |Window
 |Placed
 |Town
 |span
 |strip
 |side
 |Plan
 |ospan
 |slab
 |Plane
 |Slab
 deriving DecidableEq
@[reducible] def TT:SI->Type
 | .Expr=>pE
 | .Def=>afm
 | .Entry=>WK
 | .Table=>WL
 | .Point=>bM
 | .Zone=>ve
 | .Rule=>dD
 | .Cap=>afn
 | .Point3=>JF
 | .View=>ab0
 | .Rect=>aj
 | .Lot=>qE
 | .Easement=>aP
 | .Window=>WO
 | .Placed=>WQ
 | .Town=>bK
 | .span=>ax
 | .strip=>aF
 | .side=>fV
 | .Plan=>wX
 | .ospan=>aM
 | .slab=>aX
 | .Plane=>bE
 | .Slab=>vg
def ahk:(i:SI)->TT i->List Tree
 | .Expr,x=>yP x
 | .Def,x=>aaP x
 | .Entry,x=>Rk x
 | .Table,x=>Rl x
 | .Point,x=>Rm x
 | .Zone,x=>WM x
 | .Rule,x=>O7 x
 | .Cap,x=>aaQ x
 | .Point3,x=>FU x
 | .View,x=>WN x
 | .Rect,x=>iW x
 | .Lot,x=>aaR x
 | .Easement,x=>EF x
 | .Window,x=>U9 x
 | .Placed,x=>Va x
 | .Town,x=>afo x
 | .span,x=>ab1 x
 | .strip,x=>ael x
 | .side,x=>afp x
 | .Plan,x=>afq x
 | .ospan,x=>AB x
 | .slab,x=>JG x
 | .Plane,x=>aem x
 | .Slab,x=>afr x
def se:SE:=⟨SI,inferInstance,TT,ahk⟩
def ags:SI->List (CT SI)
 | .Expr=>[(.int .i64),(.int .i64),.str,.str,(.sl (.st SI.Expr))]
 | .Def=>[.str,(.int .i64),(.int .i64),.str,.str,(.sl (.st SI.Expr))]
 | .Entry=>[.str,(.int .i64)]
 | .Table=>[.str,(.sl (.st SI.Entry)),(.int .i64)]
 | .Point=>[(.int .i64),(.int .i64)]
 | .Zone=>[.str,.bool,(.sl (.st SI.Point))]
 | .Rule=>[.str,(.sl .str),(.sl .str),(.int .i64),(.int .i64),(.int .i64),.bool,(.int .i64),(.int .i64),(.int .i64),.str,.str,(.sl (.st SI.Expr)),(.int .i64),(.int .i64),(.int .i64),(.int .i64),(.int .i64),(.int .i64),(.int .i64)]
 | .Cap=>[.str,(.int .i64),(.int .i64),(.sl (.st SI.Point))]
 | .Point3=>[(.int .i64),(.int .i64),(.int .i64)]
 | .View=>[.str,(.int .i64),(.int .i64),(.int .i64),(.int .i64),(.sl (.st SI.Point3))]
 | .Rect=>[(.int .i64),(.int .i64),(.int .i64),(.int .i64)]
 | .Lot=>[(.int .i64),(.int .i64),(.sl (.st SI.Rect)),(.sl (.int .i64))]
 | .Easement=>[(.int .i64),(.sl (.st SI.Rect)),(.int .i64)]
 | .Window=>[(.int .i64),(.int .i64),(.int .i64),(.int .i64)]
 | .Placed=>[(.int .i64),(.int .i64),(.int .i64),(.int .i64),(.int .i64),(.int .i64),(.int .i64),(.int .i64),(.int .i64),.bool]
 | .Town=>[(.sl (.st SI.Def)),(.sl (.st SI.Table)),(.sl (.st SI.Zone)),(.sl (.st SI.Rule)),(.sl (.st SI.Cap)),(.sl (.st SI.View)),(.sl (.st SI.Point3)),(.int .i64),(.sl (.st SI.Lot)),(.sl (.st SI.Easement)),(.sl (.st SI.Window)),(.sl (.st SI.Placed)),(.sl (.st SI.Entry))]
 | .span=>[(.int .i64),(.int .i64)]
 | .strip=>[(.int .i64),(.int .i64),(.sl (.st SI.span))]
 | .side=>[(.int .i64),(.int .i64),(.int .i64),(.int .i64)]
 | .Plan=>[(.sl (.st SI.Def)),(.sl (.st SI.Table)),(.sl (.st SI.Zone)),(.sl (.st SI.Rule)),(.sl (.st SI.Cap)),(.sl (.st SI.View)),(.sl (.st SI.Point3)),(.int .i64)]
 | .ospan=>[(.int .i64),(.int .i64)]
 | .slab=>[(.int .i64),(.int .i64),(.sl (.st SI.ospan))]
 | .Plane=>[(.int .i64),(.int .i64),(.int .i64),(.int .i64)]
 | .Slab=>[(.int .i64),(.int .i64),(.sl (.st SI.Rect))]
def ahl:(i:SI)->TT i->HL se (ags i)
 | .Expr,x=>(x.op,x.n,x.s,x.key,x.args,())
 | .Def,x=>(x.name,x.body_op,x.body_n,x.body_s,x.body_key,x.body_args,())
 | .Entry,x=>(x.name,x.n,())
 | .Table,x=>(x.name,x.rows,x.else_,())
 | .Point,x=>(x.x,x.y,())
 | .Zone,x=>(x.name,x.overlay,x.corners,())
 | .Rule,x=>(x.name,x.zones,x.except,x.from_,x.until_,x.grace,x.vary,x.kind,x.test_op,x.test_n,x.test_s,x.test_key,x.test_args,x.plane_side,x.plane_base,x.plane_num,x.plane_den,x.uses,x.other,x.n,())
 | .Cap,x=>(x.name,x.load,x.limit,x.corners,())
 | .Point3,x=>(x.x,x.y,x.z,())
 | .View,x=>(x.name,x.eye_x,x.eye_y,x.eye_z,x.least,x.targets,())
 | .Rect,x=>(x.x0,x.y0,x.x1,x.y1,())
 | .Lot,x=>(x.id,x.owner,x.area,x.from_,())
 | .Easement,x=>(x.lot,x.area,x.top,())
 | .Window,x=>(x.lot,x.at_x,x.at_y,x.at_z,())
 | .Placed,x=>(x.lot,x.volume_box_base_x0,x.volume_box_base_y0,x.volume_box_base_x1,x.volume_box_base_y1,x.volume_box_z0,x.volume_box_z1,x.volume_use,x.volume_units,x.volume_extra,())
 | .Town,x=>(x.plan_defs,x.plan_tables,x.plan_zones,x.plan_rules,x.plan_caps,x.plan_views,x.plan_sun,x.plan_hours,x.land,x.easements,x.windows,x.built,x.base,())
 | .span,x=>(x.from_,x.to,())
 | .strip,x=>(x.x0,x.x1,x.column,())
 | .side,x=>(x.a_x,x.a_y,x.b_x,x.b_y,())
 | .Plan,x=>(x.defs,x.tables,x.zones,x.rules,x.caps,x.views,x.sun,x.hours,())
 | .ospan,x=>(x.from_,x.to,())
 | .slab,x=>(x.x0,x.x1,x.column,())
 | .Plane,x=>(x.side,x.base,x.num,x.den,())
 | .Slab,x=>(x.z0,x.z1,x.area,())
def agW:(i:SI)->HL se (ags i)->TT i
 | .Expr,h=>⟨h.1,h.2.1,h.2.2.1,h.2.2.2.1,h.2.2.2.2.1⟩
 | .Def,h=>⟨h.1,h.2.1,h.2.2.1,h.2.2.2.1,h.2.2.2.2.1,h.2.2.2.2.2.1⟩
 | .Entry,h=>⟨h.1,h.2.1⟩
 | .Table,h=>⟨h.1,h.2.1,h.2.2.1⟩
 | .Point,h=>⟨h.1,h.2.1⟩
 | .Zone,h=>⟨h.1,h.2.1,h.2.2.1⟩
 | .Rule,h=>⟨h.1,h.2.1,h.2.2.1,h.2.2.2.1,h.2.2.2.2.1,h.2.2.2.2.2.1,h.2.2.2.2.2.2.1,h.2.2.2.2.2.2.2.1,h.2.2.2.2.2.2.2.2.1,h.2.2.2.2.2.2.2.2.2.1,h.2.2.2.2.2.2.2.2.2.2.1,h.2.2.2.2.2.2.2.2.2.2.2.1,h.2.2.2.2.2.2.2.2.2.2.2.2.1,h.2.2.2.2.2.2.2.2.2.2.2.2.2.1,h.2.2.2.2.2.2.2.2.2.2.2.2.2.2.1,h.2.2.2.2.2.2.2.2.2.2.2.2.2.2.2.1,h.2.2.2.2.2.2.2.2.2.2.2.2.2.2.2.2.1,h.2.2.2.2.2.2.2.2.2.2.2.2.2.2.2.2.2.1,h.2.2.2.2.2.2.2.2.2.2.2.2.2.2.2.2.2.2.1,h.2.2.2.2.2.2.2.2.2.2.2.2.2.2.2.2.2.2.2.1⟩
 | .Cap,h=>⟨h.1,h.2.1,h.2.2.1,h.2.2.2.1⟩
 | .Point3,h=>⟨h.1,h.2.1,h.2.2.1⟩
 | .View,h=>⟨h.1,h.2.1,h.2.2.1,h.2.2.2.1,h.2.2.2.2.1,h.2.2.2.2.2.1⟩
 | .Rect,h=>⟨h.1,h.2.1,h.2.2.1,h.2.2.2.1⟩
 | .Lot,h=>⟨h.1,h.2.1,h.2.2.1,h.2.2.2.1⟩
 | .Easement,h=>⟨h.1,h.2.1,h.2.2.1⟩
 | .Window,h=>⟨h.1,h.2.1,h.2.2.1,h.2.2.2.1⟩
 | .Placed,h=>⟨h.1,h.2.1,h.2.2.1,h.2.2.2.1,h.2.2.2.2.1,h.2.2.2.2.2.1,h.2.2.2.2.2.2.1,h.2.2.2.2.2.2.2.1,h.2.2.2.2.2.2.2.2.1,h.2.2.2.2.2.2.2.2.2.1⟩
 | .Town,h=>⟨h.1,h.2.1,h.2.2.1,h.2.2.2.1,h.2.2.2.2.1,h.2.2.2.2.2.1,h.2.2.2.2.2.2.1,h.2.2.2.2.2.2.2.1,h.2.2.2.2.2.2.2.2.1,h.2.2.2.2.2.2.2.2.2.1,h.2.2.2.2.2.2.2.2.2.2.1,h.2.2.2.2.2.2.2.2.2.2.2.1,h.2.2.2.2.2.2.2.2.2.2.2.2.1⟩
 | .span,h=>⟨h.1,h.2.1⟩
 | .strip,h=>⟨h.1,h.2.1,h.2.2.1⟩
 | .side,h=>⟨h.1,h.2.1,h.2.2.1,h.2.2.2.1⟩
 | .Plan,h=>⟨h.1,h.2.1,h.2.2.1,h.2.2.2.1,h.2.2.2.2.1,h.2.2.2.2.2.1,h.2.2.2.2.2.2.1,h.2.2.2.2.2.2.2.1⟩
 | .ospan,h=>⟨h.1,h.2.1⟩
 | .slab,h=>⟨h.1,h.2.1,h.2.2.1⟩
 | .Plane,h=>⟨h.1,h.2.1,h.2.2.1,h.2.2.2.1⟩
 | .Slab,h=>⟨h.1,h.2.1,h.2.2.1⟩
def gv0:aj:=⟨0,0,1048576,1048576⟩
def gvS:Nat->Option ((c:CT SI)×CT.T se c)
 | 0=>some ⟨(.st SI.Rect),gv0⟩
 |_=>none
def xx:SX:={ toSE:=se,tys:=ags,get:=ahl,make:=agW,row_get:=by intro i x;cases i<;>first |rfl |exact Rj _,row_make:=by intro i h;cases i<;>first |rfl |exact Rj _,flat:=by intro i;cases i<;>rfl,gv:=gvS,gv_ok:=by intro g;match g with | 0=>rfl |_+1=>rfl }
def tab:List (TypeId×TyI):=[
 (3,⟨1,8,false,[.int .i64 0],.int .i64,[]⟩),
 (4,⟨1,1,false,[.bool false],.bool,[]⟩),
 (5,⟨1,1,false,[.int .u8 0],.int .u8,[]⟩),
 (9,⟨1,16,false,[.string ⟨#[]⟩],.str,[]⟩),
 (22,⟨1,24,false,[.slice none 0 0],.slice 272,[]⟩),
 (23,⟨1,24,false,[.slice none 0 0],.slice 274,[]⟩),
 (24,⟨1,24,false,[.slice none 0 0],.slice 162,[]⟩),
 (25,⟨1,24,false,[.slice none 0 0],.slice 61,[]⟩),
 (26,⟨1,24,false,[.slice none 0 0],.slice 276,[]⟩),
 (27,⟨1,24,false,[.slice none 0 0],.slice 280,[]⟩),
 (28,⟨1,24,false,[.slice none 0 0],.slice 278,[]⟩),
 (30,⟨8,176,true,[.slice none 0 0,.slice none 0 0,.slice none 0 0,.slice none 0 0,.slice none 0 0,.slice none 0 0,.slice none 0 0,.int .i64 0],.struct [(0,22),(1,23),(2,24),(3,25),(4,26),(5,27),(6,28),(7,3)],[]⟩),
 (31,⟨1,24,false,[.slice none 0 0],.slice 67,[]⟩),
 (32,⟨1,24,false,[.slice none 0 0],.slice 64,[]⟩),
 (33,⟨1,24,false,[.slice none 0 0],.slice 282,[]⟩),
 (34,⟨1,24,false,[.slice none 0 0],.slice 286,[]⟩),
 (35,⟨1,24,false,[.slice none 0 0],.slice 288,[]⟩),
 (37,⟨13,296,true,[.slice none 0 0,.slice none 0 0,.slice none 0 0,.slice none 0 0,.slice none 0 0,.slice none 0 0,.slice none 0 0,.int .i64 0,.slice none 0 0,.slice none 0 0,.slice none 0 0,.slice none 0 0,.slice none 0 0],.struct [(0,30),(8,31),(9,32),(10,33),(11,34),(12,35)],[]⟩),
 (38,⟨1,24,false,[.slice none 0 0],.slice 62,[]⟩),
 (47,⟨1,24,false,[.slice none 0 0],.slice 50,[]⟩),
 (50,⟨4,32,true,[.int .i64 0,.int .i64 0,.int .i64 0,.int .i64 0],.struct [(0,3),(1,3),(2,3),(3,3)],[0,0,0,0]⟩),
 (51,⟨1,24,false,[.slice none 0 0],.slice 98,[]⟩),
 (56,⟨1,24,false,[.slice none 0 0],.slice 9,[]⟩),
 (57,⟨1,24,false,[.slice none 0 0],.slice 59,[]⟩),
 (59,⟨5,72,true,[.int .i64 0,.int .i64 0,.string ⟨#[]⟩,.string ⟨#[]⟩,.slice none 0 0],.struct [(0,3),(1,3),(2,9),(3,9),(4,57)],[]⟩),
 (61,⟨20,232,true,[.string ⟨#[]⟩,.slice none 0 0,.slice none 0 0,.int .i64 0,.int .i64 0,.int .i64 0,.bool false,.int .i64 0,.int .i64 0,.int .i64 0,.string ⟨#[]⟩,.string ⟨#[]⟩,.slice none 0 0,.int .i64 0,.int .i64 0,.int .i64 0,.int .i64 0,.int .i64 0,.int .i64 0,.int .i64 0],.struct [(0,9),(1,56),(2,56),(3,3),(4,3),(5,3),(6,4),(7,3),(8,59),(13,50),(17,3),(18,3),(19,3)],[]⟩),
 (62,⟨1,24,false,[.slice none 0 0],.slice 73,[]⟩),
 (64,⟨3,40,true,[.int .i64 0,.slice none 0 0,.int .i64 0],.struct [(0,3),(1,62),(2,3)],[]⟩),
 (65,⟨1,24,false,[.slice none 0 0],.slice 3,[]⟩),
 (67,⟨4,64,true,[.int .i64 0,.int .i64 0,.slice none 0 0,.slice none 0 0],.struct [(0,3),(1,3),(2,62),(3,65)],[]⟩),
 (73,⟨4,32,true,[.int .i64 0,.int .i64 0,.int .i64 0,.int .i64 0],.struct [(0,3),(1,3),(2,3),(3,3)],[0,0,0,0]⟩),
 (98,⟨3,40,true,[.int .i64 0,.int .i64 0,.slice none 0 0],.struct [(0,3),(1,3),(2,62)],[]⟩),
 (106,⟨6,48,true,[.int .i64 0,.int .i64 0,.int .i64 0,.int .i64 0,.int .i64 0,.int .i64 0],.struct [(0,73),(4,3),(5,3)],[]⟩),
 (114,⟨1,24,false,[.slice none 0 0],.slice 118,[]⟩),
 (116,⟨1,24,false,[.slice none 0 0],.slice 124,[]⟩),
 (118,⟨3,40,true,[.int .i64 0,.int .i64 0,.slice none 0 0],.struct [(0,3),(1,3),(2,116)],[]⟩),
 (124,⟨2,16,true,[.int .i64 0,.int .i64 0],.struct [(0,3),(1,3)],[0,0]⟩),
 (145,⟨1,24,false,[.slice none 0 0],.slice 166,[]⟩),
 (150,⟨1,8,false,[.int .u64 0],.int .u64,[]⟩),
 (160,⟨1,24,false,[.slice none 0 0],.slice 196,[]⟩),
 (162,⟨3,48,true,[.string ⟨#[]⟩,.bool false,.slice none 0 0],.struct [(0,9),(1,4),(2,160)],[]⟩),
 (164,⟨1,24,false,[.slice none 0 0],.slice 175,[]⟩),
 (166,⟨3,40,true,[.int .i64 0,.int .i64 0,.slice none 0 0],.struct [(0,3),(1,3),(2,164)],[]⟩),
 (175,⟨2,16,true,[.int .i64 0,.int .i64 0],.struct [(0,3),(1,3)],[0,0]⟩),
 (187,⟨1,4,false,[.int .u32 0],.int .u32,[]⟩),
 (189,⟨1,8,false,[.int .u64 0],.int .u64,[]⟩),
 (196,⟨2,16,true,[.int .i64 0,.int .i64 0],.struct [(0,3),(1,3)],[0,0]⟩),
 (209,⟨1,8,false,[.int .u64 0],.int .u64,[]⟩),
 (221,⟨1,24,false,[.slice none 0 0],.slice 164,[]⟩),
 (235,⟨1,24,false,[.slice none 0 0],.slice 238,[]⟩),
 (238,⟨4,32,true,[.int .i64 0,.int .i64 0,.int .i64 0,.int .i64 0],.struct [(0,196),(2,196)],[]⟩),
 (272,⟨6,88,true,[.string ⟨#[]⟩,.int .i64 0,.int .i64 0,.string ⟨#[]⟩,.string ⟨#[]⟩,.slice none 0 0],.struct [(0,9),(1,59)],[]⟩),
 (274,⟨3,48,true,[.string ⟨#[]⟩,.slice none 0 0,.int .i64 0],.struct [(0,9),(1,35),(2,3)],[]⟩),
 (276,⟨4,56,true,[.string ⟨#[]⟩,.int .i64 0,.int .i64 0,.slice none 0 0],.struct [(0,9),(1,3),(2,3),(3,160)],[]⟩),
 (278,⟨3,24,true,[.int .i64 0,.int .i64 0,.int .i64 0],.struct [(0,3),(1,3),(2,3)],[0,0,0]⟩),
 (280,⟨6,72,true,[.string ⟨#[]⟩,.int .i64 0,.int .i64 0,.int .i64 0,.int .i64 0,.slice none 0 0],.struct [(0,9),(1,278),(4,3),(5,28)],[]⟩),
 (282,⟨4,32,true,[.int .i64 0,.int .i64 0,.int .i64 0,.int .i64 0],.struct [(0,3),(1,278)],[]⟩),
 (284,⟨9,72,true,[.int .i64 0,.int .i64 0,.int .i64 0,.int .i64 0,.int .i64 0,.int .i64 0,.int .i64 0,.int .i64 0,.bool false],.struct [(0,106),(6,3),(7,3),(8,4)],[]⟩),
 (286,⟨10,80,true,[.int .i64 0,.int .i64 0,.int .i64 0,.int .i64 0,.int .i64 0,.int .i64 0,.int .i64 0,.int .i64 0,.int .i64 0,.bool false],.struct [(0,3),(1,284)],[]⟩),
 (288,⟨2,24,true,[.string ⟨#[]⟩,.int .i64 0],.struct [(0,9),(1,3)],[2,0]⟩)]
def agX:List (TypeId×CT SI):=[(3,(.int .i64)),(9,.str),(50,(.st SI.Plane)),(59,(.st SI.Expr)),(61,(.st SI.Rule)),(62,(.sl (.st SI.Rect))),(64,(.st SI.Easement)),(67,(.st SI.Lot)),(73,(.st SI.Rect)),(98,(.st SI.Slab)),(124,(.st SI.ospan)),(164,(.sl (.st SI.span))),(166,(.st SI.strip)),(175,(.st SI.span)),(238,(.st SI.side))]
def afW:TypeId->Option (CT xx.ι):=lk agX
theorem lV:dG Tryz.prog (kN tab):=adH (by kernel_rfl)
theorem mixed:Tryz.prog.follows .mixedOrders=true:=Checked.mixed Tryz.checked
theorem cq {f:FuncId} {fn:Func} {l:List (FuncId×Sig xx)} (hΓ:GOk Tryz.prog (gam l)) (hfn:Tryz.prog.funcs[f]? =some fn) {s:Sig xx} (h:Hn SI) (n:Nat)
 (hq : (fn.body.isSome && !(fn.name == "runtime.NumGoroutine") && decide (s.args.length <= fn.ntmps ∧ nH s.args <= 1000 ∧ (s.res.filter RT.out).length = nH s.args)) = true) (hg : s.gen = none)
 (hr:∀ a,run (gam l) (kN tab) afW fn.ntmps n (fn.body.getD .skip) (pM xx s.res) h (ini s.args a) (agR (kN tab) fn.results.toList s.res)=s.fn a):COk Tryz.prog f s:=by
 rw[and_eq_true,and_eq_true]at hq;obtain⟨⟨q1,q2⟩,q3⟩:=hq;have hb:fn.body=some (fn.body.getD .skip):=by
  cases hc:fn.body with
  |none=>rw[hc]at q1;cases q1
  |some c=>rfl
 have hn : (fn.name == "runtime.NumGoroutine") = false := by simpa using q2
 exact cok (o9 hfn hb hn) (fun a _ e=>agS lV mixed hΓ hfn hb hn _ _ (of_decide_eq_true q3) h n ((hr a).trans e)) hg
theorem cqG {f:FuncId} {fn:Func} {l:List (FuncId×Sig xx)} (hΓ:GOk Tryz.prog (gam l)) (hfn:Tryz.prog.funcs[f]? =some fn) {g:GSig xx} (h:Hn SI) (n:Nat)
 (hq : (fn.body.isSome && !(fn.name == "runtime.NumGoroutine") && decide (g.inP.length <= fn.ntmps) && g.inOk) = true)
 (hr:∀ v,run (gam l) (kN tab) afW fn.ntmps n (fn.body.getD .skip) (VT (X:=xx) (yM g).vars) h (acI g v) (afT (kN tab) fn.results.toList g)=g.fn v):COk Tryz.prog f ⟨[],[.d .bool],fun _=>none,some g⟩:=by
 rw[and_eq_true,and_eq_true,and_eq_true]at hq;obtain⟨⟨⟨q1,q2⟩,q3⟩,q4⟩:=hq;have hb:fn.body=some (fn.body.getD .skip):=by
  cases hc:fn.body with
  |none=>rw[hc]at q1;cases q1
  |some c=>rfl
 have hn : (fn.name == "runtime.NumGoroutine") = false := by simpa using q2
 exact ahh (o9 hfn hb hn) (agn lV mixed hΓ hfn hb hn g (of_decide_eq_true q3) q4 h n (fun v _ e=>(hr v).trans e))
theorem gcn:GOk Tryz.prog (gam ([]:List (FuncId×Sig xx))):=aB
abbrev ah:CT SI:=.int .i64
abbrev ak:CT SI:=.st SI.Rect
abbrev dM:CT SI:=.st SI.Plane
abbrev aJ (f:Nat) (s:Sig xx):Prop:=COk Tryz.prog f s
end Go.Proofs
