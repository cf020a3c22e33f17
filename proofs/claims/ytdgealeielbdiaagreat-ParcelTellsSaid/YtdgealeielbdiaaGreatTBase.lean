/-
  Printed by wip/gen: what functions of the program compute, and that they do.
-/
import Derived.Test.YtdgealeielbdiaaGreatSeq
import Derived.Test.YtdgealeielbdiaaGreatChecked
open Bool (and_eq_true)
namespace Go.Proofs
open Go.Gb Go.RowKit
structure aj where
 x0:Int
 y0:Int
 x1:Int
 y1:Int
 deriving DecidableEq,Inhabited
def LV (x:aj):List Tree:=[.sc (.int .i64 x.x0),.sc (.int .i64 x.y0),.sc (.int .i64 x.x1),.sc (.int .i64 x.y1)]
structure aD where
 from_:Int
 to:Int
 deriving DecidableEq,Inhabited
def ad2 (x:aD):List Tree:=[.sc (.int .i64 x.from_),.sc (.int .i64 x.to)]
structure aM where
 x0:Int
 x1:Int
 column:(List aD)
 deriving DecidableEq,Inhabited
def agP (x:aM):List Tree:=[.sc (.int .i64 x.x0),.sc (.int .i64 x.x1),.sl (x.column.map ad2)]
structure ax where
 id:Int
 owner:Int
 area:(List aj)
 from_:(List Int)
 deriving DecidableEq,Inhabited
def aiU (x:ax):List Tree:=[.sc (.int .i64 x.id),.sc (.int .i64 x.owner),.sl (x.area.map LV),.sl (x.from_.map (fun y=>[.sc (.int .i64 y)]))]
structure dh where
 z0:Int
 z1:Int
 area:(List aj)
 deriving DecidableEq,Inhabited
def ah0 (x:dh):List Tree:=[.sc (.int .i64 x.z0),.sc (.int .i64 x.z1),.sl (x.area.map LV)]
structure Kh where
 base_x0:Int
 base_y0:Int
 base_x1:Int
 base_y1:Int
 z0:Int
 z1:Int
 deriving DecidableEq,Inhabited
def aiV (x:Kh):List Tree:=[.sc (.int .i64 x.base_x0),.sc (.int .i64 x.base_y0),.sc (.int .i64 x.base_x1),.sc (.int .i64 x.base_y1),.sc (.int .i64 x.z0),.sc (.int .i64 x.z1)]
structure dM where
 lot:Int
 area:(List aj)
 top:Int
 deriving DecidableEq,Inhabited
def aaj (x:dM):List Tree:=[.sc (.int .i64 x.lot),.sl (x.area.map LV),.sc (.int .i64 x.top)]
structure GOp where
 kind:Int
 id:Int
 a:Int
 b:Int
 n:Int
 area:(List aj)
 ids:(List Int)
 deriving DecidableEq,Inhabited
def ajk (x:GOp):List Tree:=[.sc (.int .i64 x.kind),.sc (.int .i64 x.id),.sc (.int .i64 x.a),.sc (.int .i64 x.b),.sc (.int .i64 x.n),.sl (x.area.map LV),.sl (x.ids.map (fun y=>[.sc (.int .i64 y)]))]
inductive SI where
 |Rect
 |span
 |strip
 |Lot
 |Slab
 |Box
 |Easement
 |Op
 deriving DecidableEq
@[reducible] def TT:SI->Type
 | .Rect=>aj
 | .span=>aD
 | .strip=>aM
 | .Lot=>ax
 | .Slab=>dh
 | .Box=>Kh
 | .Easement=>dM
 | .Op=>GOp
def ajw:(i:SI)->TT i->List Tree
 | .Rect,x=>LV x
 | .span,x=>ad2 x
 | .strip,x=>agP x
 | .Lot,x=>aiU x
 | .Slab,x=>ah0 x
 | .Box,x=>aiV x
 | .Easement,x=>aaj x
 | .Op,x=>ajk x
def se:SE:=⟨SI,inferInstance,TT,ajw⟩
def aiW:SI->List (CT SI)
 | .Rect=>[(.int .i64),(.int .i64),(.int .i64),(.int .i64)]
 | .span=>[(.int .i64),(.int .i64)]
 | .strip=>[(.int .i64),(.int .i64),(.sl (.st SI.span))]
 | .Lot=>[(.int .i64),(.int .i64),(.sl (.st SI.Rect)),(.sl (.int .i64))]
 | .Slab=>[(.int .i64),(.int .i64),(.sl (.st SI.Rect))]
 | .Box=>[(.int .i64),(.int .i64),(.int .i64),(.int .i64),(.int .i64),(.int .i64)]
 | .Easement=>[(.int .i64),(.sl (.st SI.Rect)),(.int .i64)]
 | .Op=>[(.int .i64),(.int .i64),(.int .i64),(.int .i64),(.int .i64),(.sl (.st SI.Rect)),(.sl (.int .i64))]
def ajx:(i:SI)->TT i->HL se (aiW i)
 | .Rect,x=>(x.x0,x.y0,x.x1,x.y1,())
 | .span,x=>(x.from_,x.to,())
 | .strip,x=>(x.x0,x.x1,x.column,())
 | .Lot,x=>(x.id,x.owner,x.area,x.from_,())
 | .Slab,x=>(x.z0,x.z1,x.area,())
 | .Box,x=>(x.base_x0,x.base_y0,x.base_x1,x.base_y1,x.z0,x.z1,())
 | .Easement,x=>(x.lot,x.area,x.top,())
 | .Op,x=>(x.kind,x.id,x.a,x.b,x.n,x.area,x.ids,())
def ajl:(i:SI)->HL se (aiW i)->TT i
 | .Rect,h=>⟨h.1,h.2.1,h.2.2.1,h.2.2.2.1⟩
 | .span,h=>⟨h.1,h.2.1⟩
 | .strip,h=>⟨h.1,h.2.1,h.2.2.1⟩
 | .Lot,h=>⟨h.1,h.2.1,h.2.2.1,h.2.2.2.1⟩
 | .Slab,h=>⟨h.1,h.2.1,h.2.2.1⟩
 | .Box,h=>⟨h.1,h.2.1,h.2.2.1,h.2.2.2.1,h.2.2.2.2.1,h.2.2.2.2.2.1⟩
 | .Easement,h=>⟨h.1,h.2.1,h.2.2.1⟩
 | .Op,h=>⟨h.1,h.2.1,h.2.2.1,h.2.2.2.1,h.2.2.2.2.1,h.2.2.2.2.2.1,h.2.2.2.2.2.2.1⟩
def xx:SX:={ toSE:=se,tys:=aiW,get:=ajx,make:=ajl,row_get:=by intro i x;cases i<;>rfl,row_make:=by intro i h;cases i<;>rfl,flat:=by intro i;cases i<;>rfl }
def tab:List (TypeId×TyI):=[
 (3,⟨1,8,false,[.int .i64 0],.int .i64,[]⟩),
 (4,⟨1,1,false,[.bool false],.bool,[]⟩),
 (5,⟨1,1,false,[.int .u8 0],.int .u8,[]⟩),
 (9,⟨1,16,false,[.string ⟨#[]⟩],.str,[]⟩),
 (22,⟨1,24,false,[.slice none 0 0],.slice 28,[]⟩),
 (25,⟨1,24,false,[.slice none 0 0],.slice 64,[]⟩),
 (26,⟨1,24,false,[.slice none 0 0],.slice 3,[]⟩),
 (28,⟨4,64,true,[.int .i64 0,.int .i64 0,.slice none 0 0,.slice none 0 0],.struct [(0,3),(1,3),(2,25),(3,26)],[]⟩),
 (36,⟨1,24,false,[.slice none 0 0],.slice 42,[]⟩),
 (42,⟨7,88,true,[.int .i64 0,.int .i64 0,.int .i64 0,.int .i64 0,.int .i64 0,.slice none 0 0,.slice none 0 0],.struct [(0,3),(1,3),(2,3),(3,3),(4,3),(5,25),(6,26)],[]⟩),
 (55,⟨1,24,false,[.slice none 0 0],.slice 59,[]⟩),
 (59,⟨3,40,true,[.int .i64 0,.slice none 0 0,.int .i64 0],.struct [(0,3),(1,25),(2,3)],[]⟩),
 (60,⟨1,24,false,[.slice none 0 0],.slice 105,[]⟩),
 (64,⟨4,32,true,[.int .i64 0,.int .i64 0,.int .i64 0,.int .i64 0],.struct [(0,3),(1,3),(2,3),(3,3)],[0,0,0,0]⟩),
 (66,⟨6,48,true,[.int .i64 0,.int .i64 0,.int .i64 0,.int .i64 0,.int .i64 0,.int .i64 0],.struct [(0,64),(4,3),(5,3)],[]⟩),
 (67,⟨1,24,false,[.slice none 0 0],.slice 66,[]⟩),
 (78,⟨1,24,false,[.slice none 0 0],.slice 25,[]⟩),
 (83,⟨1,8,false,[.map none],.map 3 4,[]⟩),
 (90,⟨1,24,false,[.slice none 0 0],.slice 125,[]⟩),
 (105,⟨3,40,true,[.int .i64 0,.int .i64 0,.slice none 0 0],.struct [(0,3),(1,3),(2,25)],[]⟩),
 (118,⟨1,8,false,[.int .u64 0],.int .u64,[]⟩),
 (123,⟨1,24,false,[.slice none 0 0],.slice 130,[]⟩),
 (125,⟨3,40,true,[.int .i64 0,.int .i64 0,.slice none 0 0],.struct [(0,3),(1,3),(2,123)],[]⟩),
 (130,⟨2,16,true,[.int .i64 0,.int .i64 0],.struct [(0,3),(1,3)],[0,0]⟩),
 (142,⟨1,24,false,[.slice none 0 0],.slice 60,[]⟩),
 (157,⟨1,4,false,[.int .u32 0],.int .u32,[]⟩),
 (159,⟨1,8,false,[.int .u64 0],.int .u64,[]⟩),
 (176,⟨1,24,false,[.slice none 0 0],.slice 4,[]⟩),
 (178,⟨1,8,false,[.int .u64 0],.int .u64,[]⟩),
 (184,⟨1,24,false,[.slice none 0 0],.slice 123,[]⟩)]
def ajm:List (TypeId×CT SI):=[(3,(.int .i64)),(4,.bool),(25,(.sl (.st SI.Rect))),(28,(.st SI.Lot)),(59,(.st SI.Easement)),(60,(.sl (.st SI.Slab))),(64,(.st SI.Rect)),(66,(.st SI.Box)),(105,(.st SI.Slab)),(123,(.sl (.st SI.span))),(125,(.st SI.strip)),(130,(.st SI.span))]
def aix:TypeId->Option (CT xx.ι):=lk ajm
theorem aiy:dG Tryz.prog (RG tab):=af7 (by kernel_rfl)
theorem mixed:Tryz.prog.follows .mixedOrders=true:=Checked.mixed Tryz.checked
theorem cq {f:FuncId} {fn:Func} {l:List (FuncId×Sig xx)} (hΓ:GOk Tryz.prog (gam l)) (hfn:Tryz.prog.funcs[f]? =some fn) {s:Sig xx} (h:Hn SI) (n:Nat)
 (hq : (fn.body.isSome && !(fn.name == "runtime.NumGoroutine") && decide (s.args.length <= fn.ntmps ∧ mR s.args <= 1000 ∧ (s.res.filter RT.out).length = mR s.args)) = true) (hg : s.gen = none)
 (hr:∀ a,run (gam l) (RG tab) aix fn.ntmps n (fn.body.getD .skip) (pz xx s.res) h (ini s.args a) (aje (RG tab) fn.results.toList s.res)=s.fn a):COk Tryz.prog f s:=by
 rw[and_eq_true,and_eq_true]at hq;obtain⟨⟨q1,q2⟩,q3⟩:=hq;have hb:fn.body=some (fn.body.getD .skip):=by
  cases hc:fn.body with
  |none=>rw[hc]at q1;cases q1
  |some c=>rfl
 have hn : (fn.name == "runtime.NumGoroutine") = false := by simpa using q2
 exact cok (jO hfn hb hn) (fun a _ e=>ajf aiy mixed hΓ hfn hb hn _ _ (of_decide_eq_true q3) h n ((hr a).trans e)) hg
theorem cqG {f:FuncId} {fn:Func} {l:List (FuncId×Sig xx)} (hΓ:GOk Tryz.prog (gam l)) (hfn:Tryz.prog.funcs[f]? =some fn) {g:GSig xx} (h:Hn SI) (n:Nat)
 (hq : (fn.body.isSome && !(fn.name == "runtime.NumGoroutine") && decide (g.inP.length <= fn.ntmps) && g.inOk) = true)
 (hr:∀ v,run (gam l) (RG tab) aix fn.ntmps n (fn.body.getD .skip) (VT (X:=xx) (AP g).vars) h (aeM g v) (aiv (RG tab) fn.results.toList g)=g.fn v):COk Tryz.prog f ⟨[],[.d .bool],fun _=>none,some g⟩:=by
 rw[and_eq_true,and_eq_true,and_eq_true]at hq;obtain⟨⟨⟨q1,q2⟩,q3⟩,q4⟩:=hq;have hb:fn.body=some (fn.body.getD .skip):=by
  cases hc:fn.body with
  |none=>rw[hc]at q1;cases q1
  |some c=>rfl
 have hn : (fn.name == "runtime.NumGoroutine") = false := by simpa using q2
 exact ajg (jO hfn hb hn) (aiR aiy mixed hΓ hfn hb hn g (of_decide_eq_true q3) q4 h n (fun v _ e=>(hr v).trans e))
theorem gcn:GOk Tryz.prog (gam ([]:List (FuncId×Sig xx))):=aB
abbrev ah:CT SI:=.int .i64
abbrev ak:CT SI:=.st SI.Rect
abbrev ay:CT SI:=.st SI.Lot
abbrev cu:CT SI:=.st SI.Slab
abbrev aH (f:Nat) (s:Sig xx):Prop:=COk Tryz.prog f s
end Go.Proofs
