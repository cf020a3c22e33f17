/-
  Printed by wip/gen: what functions of the program compute, and that they do.
-/
import Derived.Test.YtdgealeielbdiaaGreatSeq
import Derived.Test.YtdgealeielbdiaaGreatChecked
open Bool (and_eq_true)
namespace Go.Proofs
open Go.Gb Go.RowKit
structure GRect where
 x0:Int
 y0:Int
 x1:Int
 y1:Int
 deriving DecidableEq,Inhabited
def rowRect (x:GRect):List Tree:=[.sc (.int .i64 x.x0),.sc (.int .i64 x.y0),.sc (.int .i64 x.x1),.sc (.int .i64 x.y1)]
structure Gspan where
 from_:Int
 to:Int
 deriving DecidableEq,Inhabited
def rowspan (x:Gspan):List Tree:=[.sc (.int .i64 x.from_),.sc (.int .i64 x.to)]
structure Gstrip where
 x0:Int
 x1:Int
 column:(List Gspan)
 deriving DecidableEq,Inhabited
def rowstrip (x:Gstrip):List Tree:=[.sc (.int .i64 x.x0),.sc (.int .i64 x.x1),.sl (x.column.map rowspan)]
structure GLot where
 id:Int
 owner:Int
 area:(List GRect)
 from_:(List Int)
 deriving DecidableEq,Inhabited
def rowLot (x:GLot):List Tree:=[.sc (.int .i64 x.id),.sc (.int .i64 x.owner),.sl (x.area.map rowRect),.sl (x.from_.map (fun y=>[.sc (.int .i64 y)]))]
structure GSlab where
 z0:Int
 z1:Int
 area:(List GRect)
 deriving DecidableEq,Inhabited
def rowSlab (x:GSlab):List Tree:=[.sc (.int .i64 x.z0),.sc (.int .i64 x.z1),.sl (x.area.map rowRect)]
structure GBox where
 base_x0:Int
 base_y0:Int
 base_x1:Int
 base_y1:Int
 z0:Int
 z1:Int
 deriving DecidableEq,Inhabited
def rowBox (x:GBox):List Tree:=[.sc (.int .i64 x.base_x0),.sc (.int .i64 x.base_y0),.sc (.int .i64 x.base_x1),.sc (.int .i64 x.base_y1),.sc (.int .i64 x.z0),.sc (.int .i64 x.z1)]
structure GEasement where
 lot:Int
 area:(List GRect)
 top:Int
 deriving DecidableEq,Inhabited
def rowEasement (x:GEasement):List Tree:=[.sc (.int .i64 x.lot),.sl (x.area.map rowRect),.sc (.int .i64 x.top)]
structure GPoint3 where
 x:Int
 y:Int
 z:Int
 deriving DecidableEq,Inhabited
def rowPoint3 (x:GPoint3):List Tree:=[.sc (.int .i64 x.x),.sc (.int .i64 x.y),.sc (.int .i64 x.z)]
inductive SI where
 |Rect
 |span
 |strip
 |Lot
 |Slab
 |Box
 |Easement
 |Point3
 deriving DecidableEq
@[reducible] def TT:SI→Type
 | .Rect=>GRect
 | .span=>Gspan
 | .strip=>Gstrip
 | .Lot=>GLot
 | .Slab=>GSlab
 | .Box=>GBox
 | .Easement=>GEasement
 | .Point3=>GPoint3
def rowS:(i:SI)→TT i→List Tree
 | .Rect,x=>rowRect x
 | .span,x=>rowspan x
 | .strip,x=>rowstrip x
 | .Lot,x=>rowLot x
 | .Slab,x=>rowSlab x
 | .Box,x=>rowBox x
 | .Easement,x=>rowEasement x
 | .Point3,x=>rowPoint3 x
def se:SE:=⟨SI,inferInstance,TT,rowS⟩
def tysS:SI→List (CT SI)
 | .Rect=>[(.int .i64),(.int .i64),(.int .i64),(.int .i64)]
 | .span=>[(.int .i64),(.int .i64)]
 | .strip=>[(.int .i64),(.int .i64),(.sl (.st SI.span))]
 | .Lot=>[(.int .i64),(.int .i64),(.sl (.st SI.Rect)),(.sl (.int .i64))]
 | .Slab=>[(.int .i64),(.int .i64),(.sl (.st SI.Rect))]
 | .Box=>[(.int .i64),(.int .i64),(.int .i64),(.int .i64),(.int .i64),(.int .i64)]
 | .Easement=>[(.int .i64),(.sl (.st SI.Rect)),(.int .i64)]
 | .Point3=>[(.int .i64),(.int .i64),(.int .i64)]
def getS:(i:SI)→TT i→HL se (tysS i)
 | .Rect,x=>(x.x0,x.y0,x.x1,x.y1,())
 | .span,x=>(x.from_,x.to,())
 | .strip,x=>(x.x0,x.x1,x.column,())
 | .Lot,x=>(x.id,x.owner,x.area,x.from_,())
 | .Slab,x=>(x.z0,x.z1,x.area,())
 | .Box,x=>(x.base_x0,x.base_y0,x.base_x1,x.base_y1,x.z0,x.z1,())
 | .Easement,x=>(x.lot,x.area,x.top,())
 | .Point3,x=>(x.x,x.y,x.z,())
def makeS:(i:SI)→HL se (tysS i)→TT i
 | .Rect,h=>⟨h.1,h.2.1,h.2.2.1,h.2.2.2.1⟩
 | .span,h=>⟨h.1,h.2.1⟩
 | .strip,h=>⟨h.1,h.2.1,h.2.2.1⟩
 | .Lot,h=>⟨h.1,h.2.1,h.2.2.1,h.2.2.2.1⟩
 | .Slab,h=>⟨h.1,h.2.1,h.2.2.1⟩
 | .Box,h=>⟨h.1,h.2.1,h.2.2.1,h.2.2.2.1,h.2.2.2.2.1,h.2.2.2.2.2.1⟩
 | .Easement,h=>⟨h.1,h.2.1,h.2.2.1⟩
 | .Point3,h=>⟨h.1,h.2.1,h.2.2.1⟩
def xx:SX:={ toSE:=se,tys:=tysS,get:=getS,make:=makeS,row_get:=by intro i x;cases i<;>rfl,row_make:=by intro i h;cases i<;>rfl,flat:=by intro i;cases i<;>rfl }
def tab:List (TypeId×TyI):=[
 (3,⟨1,8,false,[.int .i64 0],.int .i64,[]⟩),
 (4,⟨1,1,false,[.bool false],.bool,[]⟩),
 (5,⟨1,1,false,[.int .u8 0],.int .u8,[]⟩),
 (9,⟨1,16,false,[.string ⟨#[]⟩],.str,[]⟩),
 (22,⟨1,24,false,[.slice none 0 0],.slice 28,[]⟩),
 (25,⟨1,24,false,[.slice none 0 0],.slice 64,[]⟩),
 (26,⟨1,24,false,[.slice none 0 0],.slice 3,[]⟩),
 (28,⟨4,64,true,[.int .i64 0,.int .i64 0,.slice none 0 0,.slice none 0 0],.struct [(0,3),(1,3),(2,25),(3,26)],[]⟩),
 (55,⟨1,24,false,[.slice none 0 0],.slice 59,[]⟩),
 (57,⟨3,24,true,[.int .i64 0,.int .i64 0,.int .i64 0],.struct [(0,3),(1,3),(2,3)],[0,0,0]⟩),
 (59,⟨3,40,true,[.int .i64 0,.slice none 0 0,.int .i64 0],.struct [(0,3),(1,25),(2,3)],[]⟩),
 (60,⟨1,24,false,[.slice none 0 0],.slice 105,[]⟩),
 (64,⟨4,32,true,[.int .i64 0,.int .i64 0,.int .i64 0,.int .i64 0],.struct [(0,3),(1,3),(2,3),(3,3)],[0,0,0,0]⟩),
 (66,⟨6,48,true,[.int .i64 0,.int .i64 0,.int .i64 0,.int .i64 0,.int .i64 0,.int .i64 0],.struct [(0,64),(4,3),(5,3)],[]⟩),
 (67,⟨1,24,false,[.slice none 0 0],.slice 66,[]⟩),
 (78,⟨1,24,false,[.slice none 0 0],.slice 25,[]⟩),
 (83,⟨1,8,false,[.map none],.map 3 4,[]⟩),
 (90,⟨1,24,false,[.slice none 0 0],.slice 125,[]⟩),
 (105,⟨3,40,true,[.int .i64 0,.int .i64 0,.slice none 0 0],.struct [(0,3),(1,3),(2,25)],[]⟩),
 (118,⟨1,8,false,[.int .u64 0],.int .u64,[]⟩),
 (123,⟨1,24,false,[.slice none 0 0],.slice 130,[]⟩),
 (125,⟨3,40,true,[.int .i64 0,.int .i64 0,.slice none 0 0],.struct [(0,3),(1,3),(2,123)],[]⟩),
 (130,⟨2,16,true,[.int .i64 0,.int .i64 0],.struct [(0,3),(1,3)],[0,0]⟩),
 (142,⟨1,24,false,[.slice none 0 0],.slice 60,[]⟩),
 (157,⟨1,4,false,[.int .u32 0],.int .u32,[]⟩),
 (159,⟨1,8,false,[.int .u64 0],.int .u64,[]⟩),
 (178,⟨1,8,false,[.int .u64 0],.int .u64,[]⟩),
 (184,⟨1,24,false,[.slice none 0 0],.slice 123,[]⟩)]
def codeL:List (TypeId×CT SI):=[(3,(.int .i64)),(4,.bool),(25,(.sl (.st SI.Rect))),(28,(.st SI.Lot)),(59,(.st SI.Easement)),(60,(.sl (.st SI.Slab))),(64,(.st SI.Rect)),(66,(.st SI.Box)),(105,(.st SI.Slab)),(123,(.sl (.st SI.span))),(125,(.st SI.strip)),(130,(.st SI.span))]
def codeT:TypeId→Option (CT xx.ι):=lk codeL
theorem tabok:TabOk Tryz.prog (tabOf tab):=tabOk_of (by kernel_rfl)
theorem mixed:Tryz.prog.follows .mixedOrders=true:=Checked.mixed Tryz.checked
theorem cq {f:FuncId} {fn:Func} {l:List (FuncId×Sig xx)} (hΓ:GOk Tryz.prog (gam l)) (hfn:Tryz.prog.funcs[f]? =some fn) {s:Sig xx} (h:Hn SI) (n:Nat)
 (hq : (fn.body.isSome && !(fn.name == "runtime.NumGoroutine") && decide (s.args.length ≤ fn.ntmps ∧ muts s.args ≤ 1000 ∧ (s.res.filter RT.out).length = muts s.args)) = true) (hg : s.gen = none)
 (hr:∀ a,run (gam l) (tabOf tab) codeT fn.ntmps n (fn.body.getD .skip) (ResT xx s.res) h (ini s.args a) (kRet (tabOf tab) fn.results.toList s.res)=s.fn a):COk Tryz.prog f s:=by
 rw[and_eq_true,and_eq_true]at hq
 obtain⟨⟨q1,q2⟩,q3⟩:=hq
 have hb:fn.body=some (fn.body.getD .skip):=by
  cases hc:fn.body with
  |none=>rw[hc]at q1;cases q1
  |some c=>rfl
 have hn : (fn.name == "runtime.NumGoroutine") = false := by simpa using q2
 exact cok (callable_of hfn hb hn) (fun a _ e=>fn_ok tabok mixed hΓ hfn hb hn _ _ (of_decide_eq_true q3) h n ((hr a).trans e)) hg
theorem cqG {f:FuncId} {fn:Func} {l:List (FuncId×Sig xx)} (hΓ:GOk Tryz.prog (gam l)) (hfn:Tryz.prog.funcs[f]? =some fn) {g:GSig xx} (h:Hn SI) (n:Nat)
 (hq : (fn.body.isSome && !(fn.name == "runtime.NumGoroutine") && decide (g.inP.length ≤ fn.ntmps) && g.inOk) = true)
 (hr:∀ v,run (gam l) (tabOf tab) codeT fn.ntmps n (fn.body.getD .skip) (VT (X:=xx) (outSh g).vars) h (gIni g v) (kRetG (tabOf tab) fn.results.toList g)=g.fn v):COk Tryz.prog f ⟨[],[.d .bool],fun _=>none,some g⟩:=by
 rw[and_eq_true,and_eq_true,and_eq_true]at hq
 obtain⟨⟨⟨q1,q2⟩,q3⟩,q4⟩:=hq
 have hb:fn.body=some (fn.body.getD .skip):=by
  cases hc:fn.body with
  |none=>rw[hc]at q1;cases q1
  |some c=>rfl
 have hn : (fn.name == "runtime.NumGoroutine") = false := by simpa using q2
 exact cokG (callable_of hfn hb hn) (fn_okG tabok mixed hΓ hfn hb hn g (of_decide_eq_true q3) q4 h n (fun v _ e=>(hr v).trans e))
theorem gcn:GOk Tryz.prog (gam ([]:List (FuncId×Sig xx))):=gam_nil
end Go.Proofs
