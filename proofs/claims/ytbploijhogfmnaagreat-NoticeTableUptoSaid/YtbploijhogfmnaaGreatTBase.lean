/-
  Printed by wip/gen: what functions of the program compute, and that they do.
-/
import Derived.Test.YtbploijhogfmnaaGreatH1
import Derived.Test.YtbploijhogfmnaaGreatChecked
open Bool (and_eq_true)
namespace Go.Proofs
open Go.Gb Go.RowKit
structure ak where
 x0:Int
 y0:Int
 x1:Int
 y1:Int
 deriving DecidableEq,Inhabited
def Rk (x:ak):List Tree:=[.sc (.int .i64 x.x0),.sc (.int .i64 x.y0),.sc (.int .i64 x.x1),.sc (.int .i64 x.y1)]
structure aW where
 op:Int
 n:Int
 s:ByteArray
 key:ByteArray
 args:(List aW)
mutual
def lC:aW->List Tree
 |⟨f0,f1,f2,f3,f4⟩=>[.sc (.int .i64 f0),.sc (.int .i64 f1),.sc (.string f2),.sc (.string f3),.sl (mM f4)]
def mM:List aW->List (List Tree)
 |[]=>[]
 |x::xs=>lC x::mM xs
end
theorem qW:∀ l:List aW,mM l=l.map lC
 |[]=>rfl
 |x::xs=>by rw[mM,qW xs];rfl
theorem MC (x:aW):lC x=[.sc (.int .i64 x.op),.sc (.int .i64 x.n),.sc (.string x.s),.sc (.string x.key),.sl (x.args.map lC)]:=by cases x;simp only[lC,qW]
structure iM where
 name:ByteArray
 body_op:Int
 body_n:Int
 body_s:ByteArray
 body_key:ByteArray
 body_args:(List aW)
def DY (x:iM):List Tree:=[.sc (.string x.name),.sc (.int .i64 x.body_op),.sc (.int .i64 x.body_n),.sc (.string x.body_s),.sc (.string x.body_key),.sl (x.body_args.map lC)]
structure bL where
 name:ByteArray
 n:Int
 deriving DecidableEq,Inhabited
def FC (x:bL):List Tree:=[.sc (.string x.name),.sc (.int .i64 x.n)]
structure bB where
 name:ByteArray
 rows:(List bL)
 else_:Int
 deriving DecidableEq,Inhabited
def ME (x:bB):List Tree:=[.sc (.string x.name),.sl (x.rows.map FC),.sc (.int .i64 x.else_)]
structure Rl where
 x:Int
 y:Int
 deriving DecidableEq,Inhabited
def MF (x:Rl):List Tree:=[.sc (.int .i64 x.x),.sc (.int .i64 x.y)]
structure pE where
 name:ByteArray
 overlay:Bool
 corners:(List Rl)
 deriving DecidableEq,Inhabited
def Rm (x:pE):List Tree:=[.sc (.string x.name),.sc (.bool x.overlay),.sl (x.corners.map MF)]
structure pF where
 name:ByteArray
 zones:(List ByteArray)
 except:(List ByteArray)
 from_:Int
 until_:Int
 grace:Int
 vary:Bool
 kind:Int
 test_op:Int
 test_n:Int
 test_s:ByteArray
 test_key:ByteArray
 test_args:(List aW)
 plane_side:Int
 plane_base:Int
 plane_num:Int
 plane_den:Int
 uses:Int
 other:Int
 n:Int
def Rn (x:pF):List Tree:=[.sc (.string x.name),.sl (x.zones.map (fun y=>[.sc (.string y)])),.sl (x.except.map (fun y=>[.sc (.string y)])),.sc (.int .i64 x.from_),.sc (.int .i64 x.until_),.sc (.int .i64 x.grace),.sc (.bool x.vary),.sc (.int .i64 x.kind),.sc (.int .i64 x.test_op),.sc (.int .i64 x.test_n),.sc (.string x.test_s),.sc (.string x.test_key),.sl (x.test_args.map lC),.sc (.int .i64 x.plane_side),.sc (.int .i64 x.plane_base),.sc (.int .i64 x.plane_num),.sc (.int .i64 x.plane_den),.sc (.int .i64 x.uses),.sc (.int .i64 x.other),.sc (.int .i64 x.n)]
structure AZ where
 name:ByteArray
 load:Int
 limit:Int
 corners:(List Rl)
 deriving DecidableEq,Inhabited
def V8 (x:AZ):List Tree:=[.sc (.string x.name),.sc (.int .i64 x.load),.sc (.int .i64 x.limit),.sl (x.corners.map MF)]
structure fP where
 x:Int
 y:Int
 z:Int
 deriving DecidableEq,Inhabited
def Cf (x:fP):List Tree:=[.sc (.int .i64 x.x),.sc (.int .i64 x.y),.sc (.int .i64 x.z)]
structure pG where
 name:ByteArray
 eye_x:Int
 eye_y:Int
 eye_z:Int
 least:Int
 targets:(List fP)
 deriving DecidableEq,Inhabited
def Ro (x:pG):List Tree:=[.sc (.string x.name),.sc (.int .i64 x.eye_x),.sc (.int .i64 x.eye_y),.sc (.int .i64 x.eye_z),.sc (.int .i64 x.least),.sl (x.targets.map Cf)]
structure bM where
 id:Int
 owner:Int
 area:(List ak)
 from_:(List Int)
 deriving DecidableEq,Inhabited
def aaM (x:bM):List Tree:=[.sc (.int .i64 x.id),.sc (.int .i64 x.owner),.sl (x.area.map Rk),.sl (x.from_.map (fun y=>[.sc (.int .i64 y)]))]
structure Hg where
 lot:Int
 area:(List ak)
 top:Int
 deriving DecidableEq,Inhabited
def I6 (x:Hg):List Tree:=[.sc (.int .i64 x.lot),.sl (x.area.map Rk),.sc (.int .i64 x.top)]
structure Rp where
 lot:Int
 at_x:Int
 at_y:Int
 at_z:Int
 deriving DecidableEq,Inhabited
def PK (x:Rp):List Tree:=[.sc (.int .i64 x.lot),.sc (.int .i64 x.at_x),.sc (.int .i64 x.at_y),.sc (.int .i64 x.at_z)]
structure Rq where
 lot:Int
 volume_box_base_x0:Int
 volume_box_base_y0:Int
 volume_box_base_x1:Int
 volume_box_base_y1:Int
 volume_box_z0:Int
 volume_box_z1:Int
 volume_use:Int
 volume_units:Int
 volume_extra:Bool
 deriving DecidableEq,Inhabited
def PL (x:Rq):List Tree:=[.sc (.int .i64 x.lot),.sc (.int .i64 x.volume_box_base_x0),.sc (.int .i64 x.volume_box_base_y0),.sc (.int .i64 x.volume_box_base_x1),.sc (.int .i64 x.volume_box_base_y1),.sc (.int .i64 x.volume_box_z0),.sc (.int .i64 x.volume_box_z1),.sc (.int .i64 x.volume_use),.sc (.int .i64 x.volume_units),.sc (.bool x.volume_extra)]
structure GTown where
 plan_defs:(List iM)
 plan_tables:(List bB)
 plan_zones:(List pE)
 plan_rules:(List pF)
 plan_caps:(List AZ)
 plan_views:(List pG)
 plan_sun:(List fP)
 plan_hours:Int
 land:(List bM)
 easements:(List Hg)
 windows:(List Rp)
 built:(List Rq)
 base:(List bL)
def J4 (x:GTown):List Tree:=[.sl (x.plan_defs.map DY),.sl (x.plan_tables.map ME),.sl (x.plan_zones.map Rm),.sl (x.plan_rules.map Rn),.sl (x.plan_caps.map V8),.sl (x.plan_views.map Ro),.sl (x.plan_sun.map Cf),.sc (.int .i64 x.plan_hours),.sl (x.land.map aaM),.sl (x.easements.map I6),.sl (x.windows.map PK),.sl (x.built.map PL),.sl (x.base.map FC)]
structure eY where
 box_base_x0:Int
 box_base_y0:Int
 box_base_x1:Int
 box_base_y1:Int
 box_z0:Int
 box_z1:Int
 use:Int
 units:Int
 extra:Bool
 deriving DecidableEq,Inhabited
def PN (x:eY):List Tree:=[.sc (.int .i64 x.box_base_x0),.sc (.int .i64 x.box_base_y0),.sc (.int .i64 x.box_base_x1),.sc (.int .i64 x.box_base_y1),.sc (.int .i64 x.box_z0),.sc (.int .i64 x.box_z1),.sc (.int .i64 x.use),.sc (.int .i64 x.units),.sc (.bool x.extra)]
structure kM where
 volumes:(List eY)
 gives:(List bL)
 deriving DecidableEq,Inhabited
def TY (x:kM):List Tree:=[.sl (x.volumes.map PN),.sl (x.gives.map FC)]
structure aQ where
 lot:Int
 phases:(List kM)
 deriving DecidableEq,Inhabited
def V9 (x:aQ):List Tree:=[.sc (.int .i64 x.lot),.sl (x.phases.map TY)]
structure dn where
 defs:(List iM)
 tables:(List bB)
 zones:(List pE)
 rules:(List pF)
 caps:(List AZ)
 views:(List pG)
 sun:(List fP)
 hours:Int
def abL (x:dn):List Tree:=[.sl (x.defs.map DY),.sl (x.tables.map ME),.sl (x.zones.map Rm),.sl (x.rules.map Rn),.sl (x.caps.map V8),.sl (x.views.map Ro),.sl (x.sun.map Cf),.sc (.int .i64 x.hours)]
structure aB where
 from_:Int
 to:Int
 deriving DecidableEq,Inhabited
def XM (x:aB):List Tree:=[.sc (.int .i64 x.from_),.sc (.int .i64 x.to)]
structure cZ where
 x0:Int
 x1:Int
 column:(List aB)
 deriving DecidableEq,Inhabited
def aaN (x:cZ):List Tree:=[.sc (.int .i64 x.x0),.sc (.int .i64 x.x1),.sl (x.column.map XM)]
structure jR where
 defs:(List iM)
 uses:(List (List Int))
def aaO (x:jR):List Tree:=[.sl (x.defs.map DY),.sl (x.uses.map (fun y=>[.sl (y.map (fun y=>[.sc (.int .i64 y)]))]))]
inductive SI where
 |Rect
 |Expr
 |Def
 |Entry
 |Table
 |Point
 |Zone
 |Rule
 |Cap
 |Point3
 |View
 |Lot
 |Easement
 |Window
 |Placed
 |Town
 |Volume
 |Phase
 |Drawing
 |Plan
 |span
 |strip
 |graph
 deriving DecidableEq
@[reducible] def TT:SI->Type
 | .Rect=>ak
 | .Expr=>aW
 | .Def=>iM
 | .Entry=>bL
 | .Table=>bB
 | .Point=>Rl
 | .Zone=>pE
 | .Rule=>pF
 | .Cap=>AZ
 | .Point3=>fP
 | .View=>pG
 | .Lot=>bM
 | .Easement=>Hg
 | .Window=>Rp
 | .Placed=>Rq
 | .Town=>GTown
 | .Volume=>eY
 | .Phase=>kM
 | .Drawing=>aQ
 | .Plan=>dn
 | .span=>aB
 | .strip=>cZ
 | .graph=>jR
def ads:(i:SI)->TT i->List Tree
 | .Rect,x=>Rk x
 | .Expr,x=>lC x
 | .Def,x=>DY x
 | .Entry,x=>FC x
 | .Table,x=>ME x
 | .Point,x=>MF x
 | .Zone,x=>Rm x
 | .Rule,x=>Rn x
 | .Cap,x=>V8 x
 | .Point3,x=>Cf x
 | .View,x=>Ro x
 | .Lot,x=>aaM x
 | .Easement,x=>I6 x
 | .Window,x=>PK x
 | .Placed,x=>PL x
 | .Town,x=>J4 x
 | .Volume,x=>PN x
 | .Phase,x=>TY x
 | .Drawing,x=>V9 x
 | .Plan,x=>abL x
 | .span,x=>XM x
 | .strip,x=>aaN x
 | .graph,x=>aaO x
def se:SE:=⟨SI,inferInstance,TT,ads⟩
def acT:SI->List (CT SI)
 | .Rect=>[(.int .i64),(.int .i64),(.int .i64),(.int .i64)]
 | .Expr=>[(.int .i64),(.int .i64),.str,.str,(.sl (.st SI.Expr))]
 | .Def=>[.str,(.int .i64),(.int .i64),.str,.str,(.sl (.st SI.Expr))]
 | .Entry=>[.str,(.int .i64)]
 | .Table=>[.str,(.sl (.st SI.Entry)),(.int .i64)]
 | .Point=>[(.int .i64),(.int .i64)]
 | .Zone=>[.str,.bool,(.sl (.st SI.Point))]
 | .Rule=>[.str,(.sl .str),(.sl .str),(.int .i64),(.int .i64),(.int .i64),.bool,(.int .i64),(.int .i64),(.int .i64),.str,.str,(.sl (.st SI.Expr)),(.int .i64),(.int .i64),(.int .i64),(.int .i64),(.int .i64),(.int .i64),(.int .i64)]
 | .Cap=>[.str,(.int .i64),(.int .i64),(.sl (.st SI.Point))]
 | .Point3=>[(.int .i64),(.int .i64),(.int .i64)]
 | .View=>[.str,(.int .i64),(.int .i64),(.int .i64),(.int .i64),(.sl (.st SI.Point3))]
 | .Lot=>[(.int .i64),(.int .i64),(.sl (.st SI.Rect)),(.sl (.int .i64))]
 | .Easement=>[(.int .i64),(.sl (.st SI.Rect)),(.int .i64)]
 | .Window=>[(.int .i64),(.int .i64),(.int .i64),(.int .i64)]
 | .Placed=>[(.int .i64),(.int .i64),(.int .i64),(.int .i64),(.int .i64),(.int .i64),(.int .i64),(.int .i64),(.int .i64),.bool]
 | .Town=>[(.sl (.st SI.Def)),(.sl (.st SI.Table)),(.sl (.st SI.Zone)),(.sl (.st SI.Rule)),(.sl (.st SI.Cap)),(.sl (.st SI.View)),(.sl (.st SI.Point3)),(.int .i64),(.sl (.st SI.Lot)),(.sl (.st SI.Easement)),(.sl (.st SI.Window)),(.sl (.st SI.Placed)),(.sl (.st SI.Entry))]
 | .Volume=>[(.int .i64),(.int .i64),(.int .i64),(.int .i64),(.int .i64),(.int .i64),(.int .i64),(.int .i64),.bool]
 | .Phase=>[(.sl (.st SI.Volume)),(.sl (.st SI.Entry))]
 | .Drawing=>[(.int .i64),(.sl (.st SI.Phase))]
 | .Plan=>[(.sl (.st SI.Def)),(.sl (.st SI.Table)),(.sl (.st SI.Zone)),(.sl (.st SI.Rule)),(.sl (.st SI.Cap)),(.sl (.st SI.View)),(.sl (.st SI.Point3)),(.int .i64)]
 | .span=>[(.int .i64),(.int .i64)]
 | .strip=>[(.int .i64),(.int .i64),(.sl (.st SI.span))]
 | .graph=>[(.sl (.st SI.Def)),(.sl (.sl (.int .i64)))]
def adt:(i:SI)->TT i->HL se (acT i)
 | .Rect,x=>(x.x0,x.y0,x.x1,x.y1,())
 | .Expr,x=>(x.op,x.n,x.s,x.key,x.args,())
 | .Def,x=>(x.name,x.body_op,x.body_n,x.body_s,x.body_key,x.body_args,())
 | .Entry,x=>(x.name,x.n,())
 | .Table,x=>(x.name,x.rows,x.else_,())
 | .Point,x=>(x.x,x.y,())
 | .Zone,x=>(x.name,x.overlay,x.corners,())
 | .Rule,x=>(x.name,x.zones,x.except,x.from_,x.until_,x.grace,x.vary,x.kind,x.test_op,x.test_n,x.test_s,x.test_key,x.test_args,x.plane_side,x.plane_base,x.plane_num,x.plane_den,x.uses,x.other,x.n,())
 | .Cap,x=>(x.name,x.load,x.limit,x.corners,())
 | .Point3,x=>(x.x,x.y,x.z,())
 | .View,x=>(x.name,x.eye_x,x.eye_y,x.eye_z,x.least,x.targets,())
 | .Lot,x=>(x.id,x.owner,x.area,x.from_,())
 | .Easement,x=>(x.lot,x.area,x.top,())
 | .Window,x=>(x.lot,x.at_x,x.at_y,x.at_z,())
 | .Placed,x=>(x.lot,x.volume_box_base_x0,x.volume_box_base_y0,x.volume_box_base_x1,x.volume_box_base_y1,x.volume_box_z0,x.volume_box_z1,x.volume_use,x.volume_units,x.volume_extra,())
 | .Town,x=>(x.plan_defs,x.plan_tables,x.plan_zones,x.plan_rules,x.plan_caps,x.plan_views,x.plan_sun,x.plan_hours,x.land,x.easements,x.windows,x.built,x.base,())
 | .Volume,x=>(x.box_base_x0,x.box_base_y0,x.box_base_x1,x.box_base_y1,x.box_z0,x.box_z1,x.use,x.units,x.extra,())
 | .Phase,x=>(x.volumes,x.gives,())
 | .Drawing,x=>(x.lot,x.phases,())
 | .Plan,x=>(x.defs,x.tables,x.zones,x.rules,x.caps,x.views,x.sun,x.hours,())
 | .span,x=>(x.from_,x.to,())
 | .strip,x=>(x.x0,x.x1,x.column,())
 | .graph,x=>(x.defs,x.uses,())
def adl:(i:SI)->HL se (acT i)->TT i
 | .Rect,h=>⟨h.1,h.2.1,h.2.2.1,h.2.2.2.1⟩
 | .Expr,h=>⟨h.1,h.2.1,h.2.2.1,h.2.2.2.1,h.2.2.2.2.1⟩
 | .Def,h=>⟨h.1,h.2.1,h.2.2.1,h.2.2.2.1,h.2.2.2.2.1,h.2.2.2.2.2.1⟩
 | .Entry,h=>⟨h.1,h.2.1⟩
 | .Table,h=>⟨h.1,h.2.1,h.2.2.1⟩
 | .Point,h=>⟨h.1,h.2.1⟩
 | .Zone,h=>⟨h.1,h.2.1,h.2.2.1⟩
 | .Rule,h=>⟨h.1,h.2.1,h.2.2.1,h.2.2.2.1,h.2.2.2.2.1,h.2.2.2.2.2.1,h.2.2.2.2.2.2.1,h.2.2.2.2.2.2.2.1,h.2.2.2.2.2.2.2.2.1,h.2.2.2.2.2.2.2.2.2.1,h.2.2.2.2.2.2.2.2.2.2.1,h.2.2.2.2.2.2.2.2.2.2.2.1,h.2.2.2.2.2.2.2.2.2.2.2.2.1,h.2.2.2.2.2.2.2.2.2.2.2.2.2.1,h.2.2.2.2.2.2.2.2.2.2.2.2.2.2.1,h.2.2.2.2.2.2.2.2.2.2.2.2.2.2.2.1,h.2.2.2.2.2.2.2.2.2.2.2.2.2.2.2.2.1,h.2.2.2.2.2.2.2.2.2.2.2.2.2.2.2.2.2.1,h.2.2.2.2.2.2.2.2.2.2.2.2.2.2.2.2.2.2.1,h.2.2.2.2.2.2.2.2.2.2.2.2.2.2.2.2.2.2.2.1⟩
 | .Cap,h=>⟨h.1,h.2.1,h.2.2.1,h.2.2.2.1⟩
 | .Point3,h=>⟨h.1,h.2.1,h.2.2.1⟩
 | .View,h=>⟨h.1,h.2.1,h.2.2.1,h.2.2.2.1,h.2.2.2.2.1,h.2.2.2.2.2.1⟩
 | .Lot,h=>⟨h.1,h.2.1,h.2.2.1,h.2.2.2.1⟩
 | .Easement,h=>⟨h.1,h.2.1,h.2.2.1⟩
 | .Window,h=>⟨h.1,h.2.1,h.2.2.1,h.2.2.2.1⟩
 | .Placed,h=>⟨h.1,h.2.1,h.2.2.1,h.2.2.2.1,h.2.2.2.2.1,h.2.2.2.2.2.1,h.2.2.2.2.2.2.1,h.2.2.2.2.2.2.2.1,h.2.2.2.2.2.2.2.2.1,h.2.2.2.2.2.2.2.2.2.1⟩
 | .Town,h=>⟨h.1,h.2.1,h.2.2.1,h.2.2.2.1,h.2.2.2.2.1,h.2.2.2.2.2.1,h.2.2.2.2.2.2.1,h.2.2.2.2.2.2.2.1,h.2.2.2.2.2.2.2.2.1,h.2.2.2.2.2.2.2.2.2.1,h.2.2.2.2.2.2.2.2.2.2.1,h.2.2.2.2.2.2.2.2.2.2.2.1,h.2.2.2.2.2.2.2.2.2.2.2.2.1⟩
 | .Volume,h=>⟨h.1,h.2.1,h.2.2.1,h.2.2.2.1,h.2.2.2.2.1,h.2.2.2.2.2.1,h.2.2.2.2.2.2.1,h.2.2.2.2.2.2.2.1,h.2.2.2.2.2.2.2.2.1⟩
 | .Phase,h=>⟨h.1,h.2.1⟩
 | .Drawing,h=>⟨h.1,h.2.1⟩
 | .Plan,h=>⟨h.1,h.2.1,h.2.2.1,h.2.2.2.1,h.2.2.2.2.1,h.2.2.2.2.2.1,h.2.2.2.2.2.2.1,h.2.2.2.2.2.2.2.1⟩
 | .span,h=>⟨h.1,h.2.1⟩
 | .strip,h=>⟨h.1,h.2.1,h.2.2.1⟩
 | .graph,h=>⟨h.1,h.2.1⟩
def gvS:Nat->Option ((c:CT SI)×CT.T se c):=fun _=>none
def xx:SX:={ toSE:=se,tys:=acT,get:=adt,make:=adl,row_get:=by intro i x;cases i<;>first |rfl |exact MC _,row_make:=by intro i h;cases i<;>first |rfl |exact MC _,flat:=by intro i;cases i<;>rfl,gv:=gvS,gv_ok:=fun _=>rfl }
def tab:List (TypeId×TyI):=[
 (3,⟨1,8,false,[.int .i64 0],.int .i64,[]⟩),
 (4,⟨1,1,false,[.bool false],.bool,[]⟩),
 (5,⟨1,1,false,[.int .u8 0],.int .u8,[]⟩),
 (9,⟨1,16,false,[.string ⟨#[]⟩],.str,[]⟩),
 (22,⟨1,24,false,[.slice none 0 0],.slice 107,[]⟩),
 (23,⟨1,24,false,[.slice none 0 0],.slice 75,[]⟩),
 (24,⟨1,24,false,[.slice none 0 0],.slice 235,[]⟩),
 (25,⟨1,24,false,[.slice none 0 0],.slice 239,[]⟩),
 (26,⟨1,24,false,[.slice none 0 0],.slice 241,[]⟩),
 (27,⟨1,24,false,[.slice none 0 0],.slice 245,[]⟩),
 (28,⟨1,24,false,[.slice none 0 0],.slice 243,[]⟩),
 (30,⟨8,176,true,[.slice none 0 0,.slice none 0 0,.slice none 0 0,.slice none 0 0,.slice none 0 0,.slice none 0 0,.slice none 0 0,.int .i64 0],.struct [(0,22),(1,23),(2,24),(3,25),(4,26),(5,27),(6,28),(7,3)],[]⟩),
 (31,⟨1,24,false,[.slice none 0 0],.slice 60,[]⟩),
 (32,⟨1,24,false,[.slice none 0 0],.slice 247,[]⟩),
 (33,⟨1,24,false,[.slice none 0 0],.slice 249,[]⟩),
 (34,⟨1,24,false,[.slice none 0 0],.slice 251,[]⟩),
 (35,⟨1,24,false,[.slice none 0 0],.slice 95,[]⟩),
 (37,⟨13,296,true,[.slice none 0 0,.slice none 0 0,.slice none 0 0,.slice none 0 0,.slice none 0 0,.slice none 0 0,.slice none 0 0,.int .i64 0,.slice none 0 0,.slice none 0 0,.slice none 0 0,.slice none 0 0,.slice none 0 0],.struct [(0,30),(8,31),(9,32),(10,33),(11,34),(12,35)],[]⟩),
 (38,⟨1,24,false,[.slice none 0 0],.slice 45,[]⟩),
 (40,⟨2,32,true,[.int .i64 0,.slice none 0 0],.struct [(0,3),(1,38)],[]⟩),
 (43,⟨1,24,false,[.slice none 0 0],.slice 52,[]⟩),
 (45,⟨2,48,true,[.slice none 0 0,.slice none 0 0],.struct [(0,43),(1,35)],[]⟩),
 (48,⟨4,32,true,[.int .i64 0,.int .i64 0,.int .i64 0,.int .i64 0],.struct [(0,3),(1,3),(2,3),(3,3)],[0,0,0,0]⟩),
 (50,⟨6,48,true,[.int .i64 0,.int .i64 0,.int .i64 0,.int .i64 0,.int .i64 0,.int .i64 0],.struct [(0,48),(4,3),(5,3)],[]⟩),
 (52,⟨9,72,true,[.int .i64 0,.int .i64 0,.int .i64 0,.int .i64 0,.int .i64 0,.int .i64 0,.int .i64 0,.int .i64 0,.bool false],.struct [(0,50),(6,3),(7,3),(8,4)],[]⟩),
 (54,⟨1,24,false,[.slice none 0 0],.slice 56,[]⟩),
 (56,⟨5,72,true,[.int .i64 0,.int .i64 0,.string ⟨#[]⟩,.string ⟨#[]⟩,.slice none 0 0],.struct [(0,3),(1,3),(2,9),(3,9),(4,54)],[]⟩),
 (57,⟨1,24,false,[.slice none 0 0],.slice 48,[]⟩),
 (58,⟨1,24,false,[.slice none 0 0],.slice 3,[]⟩),
 (60,⟨4,64,true,[.int .i64 0,.int .i64 0,.slice none 0 0,.slice none 0 0],.struct [(0,3),(1,3),(2,57),(3,58)],[]⟩),
 (75,⟨3,48,true,[.string ⟨#[]⟩,.slice none 0 0,.int .i64 0],.struct [(0,9),(1,35),(2,3)],[]⟩),
 (76,⟨1,24,false,[.slice none 0 0],.slice 9,[]⟩),
 (78,⟨1,8,false,[.map none],.map 9 3,[]⟩),
 (80,⟨10,208,true,[.slice none 0 0,.slice none 0 0,.slice none 0 0,.slice none 0 0,.slice none 0 0,.slice none 0 0,.slice none 0 0,.int .i64 0,.map none,.slice none 0 0],.struct [(0,30),(8,78),(9,76)],[]⟩),
 (88,⟨1,8,false,[.map none],.map 3 4,[]⟩),
 (91,⟨6,96,true,[.string ⟨#[]⟩,.string ⟨#[]⟩,.string ⟨#[]⟩,.string ⟨#[]⟩,.string ⟨#[]⟩,.string ⟨#[]⟩],.arr 6 9,[]⟩),
 (95,⟨2,24,true,[.string ⟨#[]⟩,.int .i64 0],.struct [(0,9),(1,3)],[2,0]⟩),
 (102,⟨1,8,false,[.map none],.map 9 4,[]⟩),
 (107,⟨6,88,true,[.string ⟨#[]⟩,.int .i64 0,.int .i64 0,.string ⟨#[]⟩,.string ⟨#[]⟩,.slice none 0 0],.struct [(0,9),(1,56)],[]⟩),
 (112,⟨1,24,false,[.slice none 0 0],.slice 57,[]⟩),
 (128,⟨1,8,false,[.int .u64 0],.int .u64,[]⟩),
 (139,⟨1,24,false,[.slice none 0 0],.slice 168,[]⟩),
 (153,⟨1,4,false,[.int .u32 0],.int .u32,[]⟩),
 (155,⟨1,8,false,[.int .u64 0],.int .u64,[]⟩),
 (156,⟨1,24,false,[.slice none 0 0],.slice 58,[]⟩),
 (158,⟨2,48,true,[.slice none 0 0,.slice none 0 0],.struct [(0,22),(1,156)],[]⟩),
 (162,⟨1,24,false,[.slice none 0 0],.slice 4,[]⟩),
 (164,⟨1,24,false,[.slice none 0 0],.slice 166,[]⟩),
 (166,⟨2,16,true,[.int .i64 0,.int .i64 0],.struct [(0,3),(1,3)],[0,0]⟩),
 (168,⟨3,40,true,[.int .i64 0,.int .i64 0,.slice none 0 0],.struct [(0,3),(1,3),(2,164)],[]⟩),
 (171,⟨1,8,false,[.int .u64 0],.int .u64,[]⟩),
 (233,⟨1,24,false,[.slice none 0 0],.slice 254,[]⟩),
 (235,⟨3,48,true,[.string ⟨#[]⟩,.bool false,.slice none 0 0],.struct [(0,9),(1,4),(2,233)],[]⟩),
 (237,⟨4,32,true,[.int .i64 0,.int .i64 0,.int .i64 0,.int .i64 0],.struct [(0,3),(1,3),(2,3),(3,3)],[0,0,0,0]⟩),
 (239,⟨20,232,true,[.string ⟨#[]⟩,.slice none 0 0,.slice none 0 0,.int .i64 0,.int .i64 0,.int .i64 0,.bool false,.int .i64 0,.int .i64 0,.int .i64 0,.string ⟨#[]⟩,.string ⟨#[]⟩,.slice none 0 0,.int .i64 0,.int .i64 0,.int .i64 0,.int .i64 0,.int .i64 0,.int .i64 0,.int .i64 0],.struct [(0,9),(1,76),(2,76),(3,3),(4,3),(5,3),(6,4),(7,3),(8,56),(13,237),(17,3),(18,3),(19,3)],[]⟩),
 (241,⟨4,56,true,[.string ⟨#[]⟩,.int .i64 0,.int .i64 0,.slice none 0 0],.struct [(0,9),(1,3),(2,3),(3,233)],[]⟩),
 (243,⟨3,24,true,[.int .i64 0,.int .i64 0,.int .i64 0],.struct [(0,3),(1,3),(2,3)],[0,0,0]⟩),
 (245,⟨6,72,true,[.string ⟨#[]⟩,.int .i64 0,.int .i64 0,.int .i64 0,.int .i64 0,.slice none 0 0],.struct [(0,9),(1,243),(4,3),(5,28)],[]⟩),
 (247,⟨3,40,true,[.int .i64 0,.slice none 0 0,.int .i64 0],.struct [(0,3),(1,57),(2,3)],[]⟩),
 (249,⟨4,32,true,[.int .i64 0,.int .i64 0,.int .i64 0,.int .i64 0],.struct [(0,3),(1,243)],[]⟩),
 (251,⟨10,80,true,[.int .i64 0,.int .i64 0,.int .i64 0,.int .i64 0,.int .i64 0,.int .i64 0,.int .i64 0,.int .i64 0,.int .i64 0,.bool false],.struct [(0,3),(1,52)],[]⟩),
 (254,⟨2,16,true,[.int .i64 0,.int .i64 0],.struct [(0,3),(1,3)],[0,0]⟩)]
def adm:List (TypeId×CT SI):=[(3,(.int .i64)),(4,.bool),(9,.str),(45,(.st SI.Phase)),(48,(.st SI.Rect)),(52,(.st SI.Volume)),(57,(.sl (.st SI.Rect))),(58,(.sl (.int .i64))),(60,(.st SI.Lot)),(75,(.st SI.Table)),(95,(.st SI.Entry)),(166,(.st SI.span)),(168,(.st SI.strip))]
def acg:TypeId->Option (CT xx.ι):=lk adm
theorem ach:bI Tryz.prog (KY tab):=ZQ (by kernel_rfl)
theorem mixed:Tryz.prog.follows .mixedOrders=true:=Checked.mixed Tryz.checked
theorem cq {f:FuncId} {fn:Func} {l:List (FuncId×Sig xx)} (hΓ:GOk Tryz.prog (gam l)) (hfn:Tryz.prog.funcs[f]? =some fn) {s:Sig xx} (h:Hn SI) (n:Nat)
 (hq : (fn.body.isSome && !(fn.name == "runtime.NumGoroutine") && decide (s.args.length <= fn.ntmps ∧ kL s.args <= 1000 ∧ (s.res.filter RT.out).length = kL s.args)) = true) (hg : s.gen = none)
 (hr:∀ a,run (gam l) (KY tab) acg fn.ntmps n (fn.body.getD .skip) (mh xx s.res) h (ini s.args a) (adb (KY tab) fn.results.toList s.res)=s.fn a):COk Tryz.prog f s:=by
 rw[and_eq_true,and_eq_true]at hq;obtain⟨⟨q1,q2⟩,q3⟩:=hq;have hb:fn.body=some (fn.body.getD .skip):=by
  cases hc:fn.body with
  |none=>rw[hc]at q1;cases q1
  |some c=>rfl
 have hn : (fn.name == "runtime.NumGoroutine") = false := by simpa using q2
 exact cok (lX hfn hb hn) (fun a _ e=>ade ach mixed hΓ hfn hb hn _ _ (of_decide_eq_true q3) h n ((hr a).trans e)) hg
theorem cqG {f:FuncId} {fn:Func} {l:List (FuncId×Sig xx)} (hΓ:GOk Tryz.prog (gam l)) (hfn:Tryz.prog.funcs[f]? =some fn) {g:GSig xx} (h:Hn SI) (n:Nat)
 (hq : (fn.body.isSome && !(fn.name == "runtime.NumGoroutine") && decide (g.inP.length <= fn.ntmps) && g.inOk) = true)
 (hr:∀ v,run (gam l) (KY tab) acg fn.ntmps n (fn.body.getD .skip) (VT (X:=xx) (uN g).vars) h (YJ g v) (ab9 (KY tab) fn.results.toList g)=g.fn v):COk Tryz.prog f ⟨[],[.d .bool],fun _=>none,some g⟩:=by
 rw[and_eq_true,and_eq_true,and_eq_true]at hq;obtain⟨⟨⟨q1,q2⟩,q3⟩,q4⟩:=hq;have hb:fn.body=some (fn.body.getD .skip):=by
  cases hc:fn.body with
  |none=>rw[hc]at q1;cases q1
  |some c=>rfl
 have hn : (fn.name == "runtime.NumGoroutine") = false := by simpa using q2
 exact acJ (lX hfn hb hn) (acK ach mixed hΓ hfn hb hn g (of_decide_eq_true q3) q4 h n (fun v _ e=>(hr v).trans e))
theorem gcn:GOk Tryz.prog (gam ([]:List (FuncId×Sig xx))):=ax
abbrev ah:CT SI:=.int .i64
abbrev aA:CT SI:=.st SI.Rect
abbrev aG (f:Nat) (s:Sig xx):Prop:=COk Tryz.prog f s
end Go.Proofs
