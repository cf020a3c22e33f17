/-
  What the program's package variables hold that it reads and never writes (this seat's; printed).
-/
import GoSem.Claims
import Derived.Calls
import Derived.Below
import Derived.Orders
import Derived.Laws.Cells
import Derived.Laws.AppendOwn
import Derived.Laws.StructEq
import Derived.Laws.Build
import Derived.WalkKit
open Go.IntKind (i64)
open Option (bind_some)
open List (map_cons mem_cons append_assoc mem_append length_take all_eq_true mem_singleton nil_append length_append length_cons cons_append length_drop map_map flatten_cons eq_nil_of_length_eq_zero)
namespace Go
theorem ai {α:Type _}{β:Type _}{b:β}{x:Option α}{f:α->Option β}:x.bind f=some b↔∃ a,x=some a∧f a=some b:=Option.bind_eq_some_iff
end Go
namespace Go.Gb
def gvar:Nat->Option (List Value):=fun _=>none
open Go.RowKit
inductive Tree where
 |sc (v:Value)
 |sl (rows:List (List Tree))
inductive TV where
 |s (x:Tree)
 |a (cs:List Tree)
inductive AV where
 |t (x:Tree)
 |agg (cs:List AV)
 |tup (vs:List AV)
 |own (k:Nat) (off len:Nat)
 |ptr (k:Nat) (row off:Nat)
 |rptr (row:List Tree) (off:Nat)
 |fn (f:FuncId) (first caps:List AV)
 |clo (φ:List TV->TV->Prop)
 |mp (k:Nat)
 |oz (k len:Nat)
 |nilsl
 |ub
 |undef
structure aF where
 sz:Nat
 rows:List (List AV)
structure Ex where
 m:Nat
 s:Nat
 h:s<=m
def ex0 (m:Nat):Ex:=⟨m,0,Nat.zero_le m⟩
@[simp] theorem Xf (m:Nat):(ex0 m).m=m:=rfl
@[simp] theorem Xg (m:Nat):(ex0 m).s=0:=rfl
inductive Blk where
 |none
 |at (b sz:Nat) (n:Ex)
 |mp (b:Nat)
@[simp] def Blk.num:Blk->Option Nat
 | .none=>Option.none
 | .at b _ _=>some b
 | .mp b=>some b
def oneCell:Value->Prop
 | .agg _ | .tuple _=>False
 |_=>True
section
variable (w:World) (I:Nat->Prop)
mutual
def TR:Tree->Value->Prop
 | .sc v,u=>u=v∧oneCell v
 | .sl rows,u=>(rows=[]∧∃ a cap,u= .slice a 0 cap∧(a=none->cap=0))∨∃ b off cap sz,u= .slice (some ⟨b,off,none⟩) rows.length cap∧rows.length<=cap∧I b∧TRows rows b off sz
def TRows:List (List Tree)->Nat->Nat->Nat->Prop
 |[],_,_,_=>True
 |r::rs,b,off,sz=>r.length=sz∧TRow r b off∧TRows rs b (off+sz) sz
def TRow:List Tree->Nat->Nat->Prop
 |[],_,_=>True
 |x::xs,b,off=>(∃ c,w.cell? ⟨b,off,none⟩=some c∧TR x c)∧TRow xs b (off+1)
end
def TRl:List Tree->List Value->Prop
 |[],[]=>True
 |x::xs,v::vs=>TR w I x v∧TRl xs vs
 |_,_=>False
def TVR:TV->Value->Prop
 | .s x,v=>TR w I x v
 | .a cs,v=>∃ vs:Array Value,v= .agg vs∧TRl w I cs vs.toList
def TVRs:List TV->List Value->Prop
 |[],[]=>True
 |x::xs,v::vs=>TVR w I x v∧TVRs xs vs
 |_,_=>False
end
def Same (I:Nat->Prop) (w w':World):Prop:=∀ b,I b->w'.heap[b]? =w.heap[b]?
theorem Same.cell {I:Nat->Prop} {w w':World} (h:Same I w w') {b off:Nat} (hb:I b):w'.cell? ⟨b,off,none⟩=w.cell? ⟨b,off,none⟩:=by simp only[World.cell?,h b hb]
mutual
theorem TR.mono {w w':World} {I I':Nat->Prop} (hs:Same I w w') (hi:∀ b,I b->I' b):∀ (x:Tree) (v:Value),TR w I x v->TR w' I' x v
 | .sc _,_,h=>by simpa[TR]using h
 | .sl rows,v,h=>by
  simp only[TR]at h ⊢;rcases h with h |⟨b,off,cap,sz,h1,h2,h3,h4⟩
  ·exact .inl h
  ·exact .inr ⟨b,off,cap,sz,h1,h2,hi _ h3,TRows.mono hs hi rows b off sz h3 h4⟩
theorem TRows.mono {w w':World} {I I':Nat->Prop} (hs:Same I w w') (hi:∀ b,I b->I' b):∀ (rows:List (List Tree)) (b off sz:Nat),I b->TRows w I rows b off sz->TRows w' I' rows b off sz
 |[],_,_,_,_,_=>by simp[TRows]
 |r::rs,b,off,sz,hb,h=>by
  simp only[TRows]at h ⊢;exact⟨h.1,TRow.mono hs hi r b off hb h.2.1,TRows.mono hs hi rs b (off+sz) sz hb h.2.2⟩
theorem TRow.mono {w w':World} {I I':Nat->Prop} (hs:Same I w w') (hi:∀ b,I b->I' b):∀ (r:List Tree) (b off:Nat),I b->TRow w I r b off->TRow w' I' r b off
 |[],_,_,_,_=>by simp[TRow]
 |x::xs,b,off,hb,h=>by
  simp only[TRow]at h ⊢;obtain⟨⟨c,hc,hx⟩,h2⟩:=h;exact⟨⟨c,by rw[hs.cell hb];exact hc,TR.mono hs hi x c hx⟩,TRow.mono hs hi xs b (off+1) hb h2⟩
end
theorem TRl.mono {w w':World} {I I':Nat->Prop} (hs:Same I w w') (hi:∀ b,I b->I' b):∀ (xs:List Tree) (vs:List Value),TRl w I xs vs->TRl w' I' xs vs
 |[],[],_=>trivial
 |x::xs,v::vs,h=>⟨TR.mono hs hi x v h.1,TRl.mono hs hi xs vs h.2⟩
 |[],_::_,h=>h.elim
 |_::_,[],h=>h.elim
theorem TVR.mono {w w':World} {I I':Nat->Prop} (hs:Same I w w') (hi:∀ b,I b->I' b):∀ (x:TV) (v:Value),TVR w I x v->TVR w' I' x v
 | .s x,v,h=>TR.mono hs hi x v h
 | .a cs,_,⟨vs,h1,h2⟩=>⟨vs,h1,TRl.mono hs hi cs vs.toList h2⟩
theorem TVRs.mono {w w':World} {I I':Nat->Prop} (hs:Same I w w') (hi:∀ b,I b->I' b):∀ (xs:List TV) (vs:List Value),TVRs w I xs vs->TVRs w' I' xs vs
 |[],[],_=>trivial
 |x::xs,v::vs,h=>⟨TVR.mono hs hi x v h.1,TVRs.mono hs hi xs vs h.2⟩
 |[],_::_,h=>h.elim
 |_::_,[],h=>h.elim
def VarsOk (w:World) (I:Nat->Prop):Prop:=∀ g row,gvar g=some row->I g∧TRow w I (row.map Tree.sc) g 0
theorem VarsOk.mono {w w':World} {I I':Nat->Prop} (hs:Same I w w') (hi:∀ b,I b->I' b) (h:VarsOk w I):VarsOk w' I':=fun g row hg=>
 ⟨hi g (h g row hg).1,TRow.mono hs hi _ g 0 (h g row hg).1 (h g row hg).2⟩
def Xh (w:World) (I:Nat->Prop) (R:World->(Nat->Prop)->Value->Prop) (e:Ending) (w':World):Prop:=
 ∃ v I',e= .returned v∧Below w.heap.size w w'∧(∀ b,I b->I' b)∧(∀ b,I' b->b < w'.heap.size)∧(∀ b,I' b->I b∨w.heap.size<=b)∧R w' I' v
def CloR (P:Program) (w:World) (I:Nat->Prop) (φ:List TV->TV->Prop) (v:Value):Prop:=
 ∃ (f:FuncId) (first caps:Array Value),v= .func (.func f) first caps∧
   (∀ fn, P.funcs[f]? = some fn -> fn.body.isSome = true ∧ (fn.name == "runtime.NumGoroutine") = false) ∧ (P.funcs[f]?).isSome = true ∧
   ∀ (w':World) (I':Nat->Prop) (args:List TV) (vs:Array Value) (r:TV),(∀ b,I b->I' b)->Same I w w'->(∀ b,I' b->b < w'.heap.size)->
     φ args r->TVRs w' I' args vs.toList->Calls P f (first++vs++caps) w' (Xh w' I' fun w'' I'' u=>TVR w'' I'' r u)
section
variable (P:Program) (β:Nat->Option Blk) (w:World) (I:Nat->Prop)
mutual
def VR:AV->Value->Prop
 | .t x,v=>TR w I x v
 | .agg cs,v=>∃ vs:Array Value,v= .agg vs∧VRl cs vs.toList
 | .tup cs,v=>∃ vs:Array Value,v= .tuple vs∧VRl cs vs.toList
 | .own k off len,v=>(β k=some .none∧v= .slice none 0 0∧off=0∧len=0)∨
  ∃ b sz n cap o,β k=some (.at b sz n)∧v= .slice (some ⟨b,o,none⟩) len cap∧len<=cap∧n.s+(off+cap)*sz<=n.m∧(cap≠0->o=n.s+off*sz)
 | .ptr k row off,v=>∃ b sz n,β k=some (.at b sz n)∧v= .pointer (some ⟨b,n.s+row*sz+off,none⟩)
 | .rptr row off,v=>∃ b o,v= .pointer (some ⟨b,o+off,none⟩)∧I b∧TRow w I row b o
 | .fn f first caps,v=>∃ fs cs:Array Value,v= .func (.func f) fs cs∧VRl first fs.toList∧VRl caps cs.toList
 | .clo φ,v=>CloR P w I φ v
 | .mp k,v=>∃ b,β k=some (.mp b)∧v= .map (some b)
 | .oz k len,v=>(len=0∧v= .slice none 0 0)∨(len≠0∧∃ b sz n cap o,β k=some (.at b sz n)∧v= .slice (some ⟨b,o,none⟩) len cap∧len<=cap∧n.s+(0+cap)*sz<=n.m∧(cap≠0->o=n.s+0*sz))
 | .nilsl,v=>v= .slice none 0 0
 | .ub,v=>∃ b,v= .bool b
 | .undef,_=>True
def VRl:List AV->List Value->Prop
 |[],[]=>True
 |x::xs,v::vs=>VR x v∧VRl xs vs
 |_,_=>False
end
def ORow:List AV->Array Value->Nat->Prop
 |[],_,_=>True
 |x::xs,c,off=>(∃ v,c[off]? =some v∧VR P β w I x v∧oneCell v)∧ORow xs c (off+1)
def ORows:List (List AV)->Array Value->Nat->Nat->Prop
 |[],_,_,_=>True
 |r::rs,c,off,sz=>r.length=sz∧ORow P β w I r c off∧ORows rs c (off+sz) sz
def MRows:List (List AV)->List MapEntry->Prop
 |[],[]=>True
 |r::rs,e::es=>VRl P β w I r [e.key,e.val]∧MRows rs es
 |_,_=>False
def OR (o:aF):Blk->Prop
 | .none=>o.rows=[]
 | .mp b=>∃ es clock,w.heap[b]? =some (.map es clock)∧o.rows.length<=o.sz∧(o.sz=o.rows.length->MRows P β w I o.rows es.toList)∧(es.toList.map (·.born)).Nodup∧∀ e∈es.toList,e.born < clock
 | .at b sz n=>sz=o.sz∧∃ c e,w.heap[b]? =some (.cells c e (0,0))∧c.size=n.m∧ORows P β w I o.rows c n.s sz
end
theorem CloR.mono {P:Program} {w w':World} {I I':Nat->Prop} (hs:Same I w w') (hi:∀ b,I b->I' b) {φ:List TV->TV->Prop} {v:Value} (h:CloR P w I φ v):CloR P w' I' φ v:=by
 obtain⟨f,first,caps,h1,h2,h3,h4⟩:=h;exact⟨f,first,caps,h1,h2,h3,fun w2 I2 args vs r hi2 hs2 hlt hφ ha=>h4 w2 I2 args vs r (fun b h=>hi2 b (hi b h)) (fun b h=>(hs2 b (hi b h)).trans (hs b h)) hlt hφ ha⟩
mutual
theorem VR.mono {P:Program} {β β':Nat->Option Blk} {w w':World} {I I':Nat->Prop} (hb:∀ k B,β k=some B->β' k=some B) (hs:Same I w w') (hi:∀ b,I b->I' b):∀ (x:AV) (v:Value),VR P β w I x v->VR P β' w' I' x v
 | .t x,v,h=>by simp only[VR]at h ⊢;exact TR.mono hs hi x v h
 | .agg cs,v,h=>by
  simp only[VR]at h ⊢;obtain⟨vs,h1,h2⟩:=h;exact⟨vs,h1,VRl.mono hb hs hi cs vs.toList h2⟩
 | .tup cs,v,h=>by
  simp only[VR]at h ⊢;obtain⟨vs,h1,h2⟩:=h;exact⟨vs,h1,VRl.mono hb hs hi cs vs.toList h2⟩
 | .own k off len,v,h=>by
  simp only[VR]at h ⊢;rcases h with ⟨h1,h2⟩ |⟨b,sz,n,cap,o,h1,h2⟩
  ·exact .inl ⟨hb _ _ h1,h2⟩
  ·exact .inr ⟨b,sz,n,cap,o,hb _ _ h1,h2⟩
 | .ptr k row off,v,h=>by
  simp only[VR]at h ⊢;obtain⟨b,sz,n,h1,h2⟩:=h;exact⟨b,sz,n,hb _ _ h1,h2⟩
 | .rptr row off,v,h=>by
  simp only[VR]at h ⊢;obtain⟨b,o,h1,h2,h3⟩:=h;exact⟨b,o,h1,hi _ h2,TRow.mono hs hi row b o h2 h3⟩
 | .fn f first caps,v,h=>by
  simp only[VR]at h ⊢;obtain⟨fs,cs,h1,h2,h3⟩:=h;exact⟨fs,cs,h1,VRl.mono hb hs hi first fs.toList h2,VRl.mono hb hs hi caps cs.toList h3⟩
 | .clo φ,v,h=>by simp only[VR]at h ⊢;exact CloR.mono hs hi h
 | .mp k,v,h=>by
  simp only[VR]at h ⊢;obtain⟨b,h1,h2⟩:=h;exact⟨b,hb _ _ h1,h2⟩
 | .oz k len,v,h=>by
  simp only[VR]at h ⊢;rcases h with h |⟨h0,b,sz,n,cap,o,h1,h2⟩
  ·exact .inl h
  ·exact .inr ⟨h0,b,sz,n,cap,o,hb _ _ h1,h2⟩
 | .nilsl,v,h=>by simpa[VR]using h
 | .ub,v,h=>by simpa[VR]using h
 | .undef,_,_=>by simp[VR]
theorem VRl.mono {P:Program} {β β':Nat->Option Blk} {w w':World} {I I':Nat->Prop} (hb:∀ k B,β k=some B->β' k=some B) (hs:Same I w w') (hi:∀ b,I b->I' b):∀ (xs:List AV) (vs:List Value),VRl P β w I xs vs->VRl P β' w' I' xs vs
 |[],[],_=>by simp[VRl]
 |x::xs,v::vs,h=>by simp only[VRl]at h ⊢;exact⟨VR.mono hb hs hi x v h.1,VRl.mono hb hs hi xs vs h.2⟩
 |[],_::_,h=>by simp[VRl]at h
 |_::_,[],h=>by simp[VRl]at h
end
theorem VR.oz_own {P:Program} {β:Nat->Option Blk} {w:World} {I:Nat->Prop} {k len:Nat} {v:Value} (h:VR P β w I (.oz k len) v):(len=0∧v= .slice none 0 0)∨(len≠0∧VR P β w I (.own k 0 len) v):=by
 simp only[VR]at h ⊢;exact h.imp id fun h=>⟨h.1,.inr h.2⟩
def wk:AV->AV
 | .nilsl=> .t (.sl [])
 |x=>x
def bA (rows:List (List AV)):List (List AV):=rows.map fun r=>r.map wk
theorem VR.wk {P:Program} {β:Nat->Option Blk} {w:World} {I:Nat->Prop} {x:AV} {v:Value} (h:VR P β w I x v):VR P β w I (wk x) v:=by
 cases x<;>simp only[Gb.wk]<;>try exact h
 simp only[VR]at h ⊢;simp only[TR];exact .inl ⟨trivial,none,0,h,fun _=>rfl⟩
theorem ORow.wk {P:Program} {β:Nat->Option Blk} {w:World} {I:Nat->Prop}:∀ (r:List AV) (c:Array Value) (off:Nat),ORow P β w I r c off->ORow P β w I (r.map Gb.wk) c off
 |[],_,_,_=>trivial
 |_::xs,c,off,⟨⟨v,h1,h2,h3⟩,h4⟩=>⟨⟨v,h1,h2.wk,h3⟩,ORow.wk xs c (off+1) h4⟩
theorem ORows.wk {P:Program} {β:Nat->Option Blk} {w:World} {I:Nat->Prop}:∀ (rs:List (List AV)) (c:Array Value) (off sz:Nat),ORows P β w I rs c off sz->ORows P β w I (bA rs) c off sz
 |[],_,_,_,_=>trivial
 |r::rs,c,off,sz,⟨h1,h2,h3⟩=>⟨by simpa using h1,ORow.wk r c off h2,ORows.wk rs c (off+sz) sz h3⟩
theorem ORow.mono {P:Program} {β β':Nat->Option Blk} {w w':World} {I I':Nat->Prop} (hb:∀ k B,β k=some B->β' k=some B) (hs:Same I w w') (hi:∀ b,I b->I' b):∀ (r:List AV) (c:Array Value) (off:Nat),ORow P β w I r c off->ORow P β' w' I' r c off
 |[],_,_,_=>trivial
 |x::xs,c,off,⟨⟨v,h1,h2,h3⟩,h4⟩=>⟨⟨v,h1,VR.mono hb hs hi x v h2,h3⟩,ORow.mono hb hs hi xs c (off+1) h4⟩
theorem ORows.mono {P:Program} {β β':Nat->Option Blk} {w w':World} {I I':Nat->Prop} (hb:∀ k B,β k=some B->β' k=some B) (hs:Same I w w') (hi:∀ b,I b->I' b):∀ (rs:List (List AV)) (c:Array Value) (off sz:Nat),ORows P β w I rs c off sz->ORows P β' w' I' rs c off sz
 |[],_,_,_,_=>trivial
 |r::rs,c,off,sz,⟨h1,h2,h3⟩=>⟨h1,ORow.mono hb hs hi r c off h2,ORows.mono hb hs hi rs c (off+sz) sz h3⟩
theorem VRl.wk {P:Program} {β:Nat->Option Blk} {w:World} {I:Nat->Prop}:∀ (r:List AV) (vs:List Value),VRl P β w I r vs->VRl P β w I (r.map Gb.wk) vs
 |[],[],_=>by simp[VRl]
 |x::xs,v::vs,h=>by simp only[VRl]at h;simp only[map_cons,VRl];exact⟨h.1.wk,VRl.wk xs vs h.2⟩
 |[],_::_,h=>by simp[VRl]at h
 |_::_,[],h=>by simp[VRl]at h
theorem MRows.mono {P:Program} {β β':Nat->Option Blk} {w w':World} {I I':Nat->Prop} (hb:∀ k B,β k=some B->β' k=some B) (hs:Same I w w') (hi:∀ b,I b->I' b):∀ (rs:List (List AV)) (es:List MapEntry),MRows P β w I rs es->MRows P β' w' I' rs es
 |[],[],_=>trivial
 |r::rs,_::es,⟨h1,h4⟩=>⟨VRl.mono hb hs hi r _ h1,MRows.mono hb hs hi rs es h4⟩
 |[],_::_,h=>h.elim
 |_::_,[],h=>h.elim
theorem MRows.wk {P:Program} {β:Nat->Option Blk} {w:World} {I:Nat->Prop}:∀ (rs:List (List AV)) (es:List MapEntry),MRows P β w I rs es->MRows P β w I (bA rs) es
 |[],[],_=>trivial
 |r::rs,_::es,⟨h1,h4⟩=>⟨VRl.wk r _ h1,MRows.wk rs es h4⟩
 |[],_::_,h=>h.elim
 |_::_,[],h=>h.elim
structure Was where
 own:Nat->Prop
 imm:Nat->Prop
 anc:Nat->Option Blk:=fun _=>none
 lt:∀ j B,anc j=some B->j < 1000:=by intro j B h;cases h
structure Mem (P:Program) (w0:World) (O0:Was) (β:Nat->Option Blk) (I:Nat->Prop) (obj:Nat->Option aF) (w:World):Prop where
 objs:∀ k o,obj k=some o->∃ B,β k=some B∧OR P β w I o B
 injB:∀ k k' o o' B B' b,obj k=some o->obj k'=some o'->β k=some B->β k'=some B'->B.num=some b->B'.num=some b->k=k'
 ownB:∀ k o B b,obj k=some o->β k=some B->B.num=some b->¬ I b∧b < w.heap.size∧(O0.own b∨w0.heap.size<=b)
 lt:∀ b,I b->b < w.heap.size
 up:∀ b,I b->O0.imm b∨O0.own b∨w0.heap.size<=b
 keep:∀ b,b < w0.heap.size->¬ O0.own b->w.heap[b]? =w0.heap[b]?
 le:w0.heap.size<=w.heap.size
 os:w.os=w0.os
 tape:w.tape=w0.tape
 output:w.output=w0.output
 anch:∀ j B,O0.anc j=some B->β j=some B
 vars:VarsOk w I
section
variable {P:Program} {w0:World} {O0:Was} {β:Nat->Option Blk} {I:Nat->Prop} {obj:Nat->Option aF} {w:World}
theorem Mem.inj (h:Mem P w0 O0 β I obj w):∀ k k' o o' b s n s' n',obj k=some o->obj k'=some o'->β k=some (.at b s n)->β k'=some (.at b s' n')->k=k':=
 fun k k' o o' b _ _ _ _ h1 h2 h3 h4=>h.injB k k' o o' _ _ b h1 h2 h3 h4 rfl rfl
theorem Mem.own (h:Mem P w0 O0 β I obj w):∀ k o b s n,obj k=some o->β k=some (.at b s n)->¬ I b∧b < w.heap.size∧(O0.own b∨w0.heap.size<=b):=
 fun k o b _ _ h1 h2=>h.ownB k o _ b h1 h2 rfl
end
def Lies (β:Nat->Option Blk) (k b:Nat):Prop:=∃ B,β k=some B∧B.num=some b
theorem Lies.at {β:Nat->Option Blk} {k b s:Nat} {n:Ex} (h:β k=some (.at b s n)):Lies β k b:=⟨_,h,rfl⟩
section
variable {P:Program} {w0:World} {O0:Was} {β:Nat->Option Blk} {I:Nat->Prop} {obj:Nat->Option aF} {w:World}
theorem Mem.injL (h:Mem P w0 O0 β I obj w):∀ k k' o o' b,obj k=some o->obj k'=some o'->Lies β k b->Lies β k' b->k=k':=
 fun k k' o o' b h1 h2 ⟨B,h3,h5⟩ ⟨B',h4,h6⟩=>h.injB k k' o o' B B' b h1 h2 h3 h4 h5 h6
theorem Mem.ownL (h:Mem P w0 O0 β I obj w):∀ k o b,obj k=some o->Lies β k b->¬ I b∧b < w.heap.size∧(O0.own b∨w0.heap.size<=b):=
 fun k o b h1 ⟨B,h2,h3⟩=>h.ownB k o B b h1 h2 h3
end
def aL (obj:Nat->Option aF):List (Nat×Option aF)->Nat->Option aF
 |[],k=>obj k
 |(j,o)::r,k=>if k=j then o else aL obj r k
def ownN (i k:Nat):Prop:=k=i∨(1000000<=i∧1000000<=k∧(k - 1000000)/64=(i - 1000000)/64)
theorem ownN.ne {i k:Nat} (h:¬ ownN i k):k≠i:=fun e=>h (.inl e)
structure Step (β:Nat->Option Blk) (I:Nat->Prop) (w:World) (i:Nat) (β':Nat->Option Blk) (I':Nat->Prop) (w':World):Prop where
 other:∀ k,¬ ownN i k->β' k=β k
 ext:∀ k B,β k=some B->β' k=some B
 same:Same I w w'
 inc:∀ b,I b->I' b
theorem Step.refl (β:Nat->Option Blk) (I:Nat->Prop) (w:World) (i:Nat):Step β I w i β I w:=⟨fun _ _=>rfl,fun _ _ h=>h,fun _ _=>rfl,fun _ h=>h⟩
theorem fA {w:World} {o:Obj} {b:Nat} (h:b < w.heap.size):(w.alloc o).heap[b]? =w.heap[b]? :=by
 simp only[World.alloc,Array.getElem?_push];rw[if_neg (by omega)]
theorem Same.alloc {I:Nat->Prop} {w:World} (h:∀ b,I b->b < w.heap.size) (o:Obj):Same I w (w.alloc o):=fun b hb=>fA (h b hb)
def ins (β:Nat->Option Blk) (i:Nat) (B:Blk):Nat->Option Blk:=fun k=>if k=i then some B else β k
theorem iT {β:Nat->Option Blk} {i:Nat} {B:Blk} (h:β i=none):∀ k C,β k=some C->ins β i B k=some C:=by
 intro k C hk;unfold ins;split
 ·subst_vars;rw[h]at hk;cases hk
 ·exact hk
theorem gG {P:Program} {β:Nat->Option Blk} {w:World} {I:Nat->Prop}:∀ (r:List AV) (c:Array Value) (off:Nat),ORow P β w I r c off↔∀ j x,r[j]? =some x->∃ v,c[off+j]? =some v∧VR P β w I x v∧oneCell v
 |[],c,off=>by simp[ORow]
 |x::xs,c,off=>by
  simp only[ORow,gG xs c (off+1)];constructor
  ·rintro⟨h1,h2⟩ j y hj;cases j with
   |zero=>simp at hj;subst hj;exact h1
   |succ j=>obtain⟨v,hv⟩:=h2 j y (by simpa using hj);exact⟨v,by rw[show off+(j+1)=off+1+j by omega];exact hv.1,hv.2⟩
  ·intro h;refine⟨by simpa using h 0 x rfl,fun j y hj=>?_⟩;obtain⟨v,hv⟩:=h (j+1) y (by simpa using hj);exact⟨v,by rw[show off+1+j=off+(j+1)by omega];exact hv.1,hv.2⟩
theorem lS {P:Program} {β:Nat->Option Blk} {w:World} {I:Nat->Prop}:∀ (rs:List (List AV)) (c:Array Value) (off sz:Nat),ORows P β w I rs c off sz↔∀ i r,rs[i]? =some r->r.length=sz∧ORow P β w I r c (off+i*sz)
 |[],c,off,sz=>by simp[ORows]
 |r::rs,c,off,sz=>by
  simp only[ORows,lS rs c (off+sz) sz];constructor
  ·rintro⟨h1,h2,h3⟩ i r' hi;cases i with
   |zero=>simp at hi;subst hi;exact⟨h1,by simpa using h2⟩
   |succ i=>have:=h3 i r' (by simpa using hi);rw[show off+(i+1)*sz=off+sz+i*sz by rw[Nat.add_mul];omega];exact this
  ·intro h;have h0:=h 0 r rfl;refine⟨h0.1,by simpa using h0.2,fun i r' hi=>?_⟩;have:=h (i+1) r' (by simpa using hi);rw[show off+sz+i*sz=off+(i+1)*sz by rw[Nat.add_mul];omega];exact this
section
variable {P:Program} {w0:World} {O0:Was} {β:Nat->Option Blk} {I:Nat->Prop} {obj:Nat->Option aF} {w:World}
theorem OR.mono {β':Nat->Option Blk} {I':Nat->Prop} {w':World} {o:aF} {B:Blk} (hb:∀ k B,β k=some B->β' k=some B) (hs:Same I w w') (hi:∀ b,I b->I' b)
 (hB:∀ b,B.num=some b->w'.heap[b]? =w.heap[b]?) (h:OR P β w I o B):OR P β' w' I' o B:=by
 cases B with
 |none=>exact h
 | «at» b s n=>
  obtain⟨h1,c,e,h2,h3,h4⟩:=h;exact⟨h1,c,e,(hB b rfl).trans h2,h3,ORows.mono hb hs hi _ _ _ _ h4⟩
 |mp b=>
  obtain⟨es,cl,h1,hle,h2,h3⟩:=h;exact⟨es,cl,(hB b rfl).trans h1,hle,fun e=>MRows.mono hb hs hi _ _ (h2 e),h3⟩
theorem Mem.alloc {i:Nat} {o:aF} {c:Array Value} {e:TypeId} (h:Mem P w0 O0 β I obj w) (hn:β i=none)
 (hr:ORows P β w I o.rows c 0 o.sz):
 Step β I w i (ins β i (.at w.heap.size o.sz (ex0 c.size))) I (w.alloc (.cells c e))∧
 Mem P w0 O0 (ins β i (.at w.heap.size o.sz (ex0 c.size))) I (aL obj [(i,some o)]) (w.alloc (.cells c e)):=by
 have hS:Step β I w i (ins β i (.at w.heap.size o.sz (ex0 c.size))) I (w.alloc (.cells c e)):=
  ⟨fun k hk=>by simp[ins,ownN.ne hk],iT hn,Same.alloc h.lt _,fun _ h=>h⟩
 refine⟨hS,?_⟩;have hne:∀ k o',obj k=some o'->k≠i:=fun k o' hk e=>by
  obtain⟨B,hB,_⟩:=h.objs k o' hk;rw[e,hn]at hB;cases hB
 constructor
 ·intro k o' hk;simp only[aL]at hk;split at hk
  ·injection hk with hk;subst hk;rename_i hki;refine⟨.at w.heap.size o.sz (ex0 c.size),by simp[ins,hki],rfl,c,e,?_,rfl,ORows.mono hS.ext hS.same hS.inc _ _ _ _ hr⟩;exact heap_alloc_new w _
  ·obtain⟨B,hB,hO⟩:=h.objs k o' hk;exact⟨B,iT hn _ _ hB,OR.mono hS.ext hS.same hS.inc (fun b hb=>fA (h.ownB k o' B b hk hB hb).2.1) hO⟩
 ·intro k k' o1 o2 B B' b h1 h2 h3 h4 h5 h6;simp only[aL]at h1 h2;simp only[ins]at h3 h4;split at h1<;>split at h2
  ·rename_i a b;rw[a,b]
  ·rename_i hki hki';simp only[hki,if_true,Option.some.injEq]at h3;simp only[hki',if_false]at h4;subst h3;injection h5 with h5;have:=(h.ownB k' o2 B' b h2 h4 h6).2.1;omega
  ·rename_i hki hki';simp only[hki',if_true,Option.some.injEq]at h4;simp only[hki,if_false]at h3;subst h4;injection h6 with h6;have:=(h.ownB k o1 B b h1 h3 h5).2.1;omega
  ·rename_i hki hki';simp only[hki,hki',if_false]at h3 h4;exact h.injB k k' o1 o2 B B' b h1 h2 h3 h4 h5 h6
 ·intro k o' B b h1 h2 h3;simp only[aL]at h1;simp only[ins]at h2;split at h1
  ·rename_i hki;simp only[hki,if_true,Option.some.injEq]at h2;subst h2;injection h3 with h3;refine⟨fun hI=>?_,?_,.inr ?_⟩
   ·have:=h.lt b hI;omega
   ·simp;omega
   ·have:=h.le;omega
  ·rename_i hki;simp only[hki,if_false]at h2;obtain⟨a,b',c'⟩:=h.ownB k o' B b h1 h2 h3;exact⟨a,by simp;omega,c'⟩
 ·intro b hb;have:=h.lt b hb;simp;omega
 ·exact h.up
 ·intro b hb hO;rw[fA (by have:=h.le;omega)];exact h.keep b hb hO
 ·have:=h.le;simp;omega
 ·exact h.os
 ·exact h.tape
 ·exact h.output
 ·intro j B hj;exact iT hn _ _ (h.anch j B hj)
 ·exact h.vars.mono (Same.alloc h.lt _) (fun _ h=>h)
theorem Mem.write {k:Nat} {o o':aF} {b s:Nat} {n:Ex} {c':Array Value} {e:TypeId} {w':World} (h:Mem P w0 O0 β I obj w) (hk:obj k=some o) (hβ:β k=some (.at b s n))
 (hnew:w'.heap[b]? =some (.cells c' e (0,0))) (hother:∀ b',b'≠b->w'.heap[b']? =w.heap[b']?) (hsize:w'.heap.size=w.heap.size) (hos:w'.os=w.os) (htape:w'.tape=w.tape) (hout:w'.output=w.output)
 (hsz:s=o'.sz) (hn:c'.size=n.m) (hr:ORows P β w I o'.rows c' n.s o'.sz):
 Same I w w'∧Mem P w0 O0 β I (aL obj [(k,some o')]) w':=by
 obtain⟨hnI,hlt,hO⟩:=h.own k o b s n hk hβ;have hs:Same I w w':=fun b' hb=>hother b' (fun e=>hnI (e ▸ hb));refine⟨hs,?_⟩;constructor
 ·intro j oj hj;simp only[aL]at hj;split at hj
  ·rename_i hjk;injection hj with hj;subst hj;refine⟨.at b s n,by rw[hjk];exact hβ,hsz,c',e,?_,hn,hsz ▸ ORows.mono (fun _ _ h=>h) hs (fun _ h=>h) _ _ _ _ hr⟩;exact hnew
  ·rename_i hjk;obtain⟨B,hB,hOR⟩:=h.objs j oj hj;refine⟨B,hB,OR.mono (fun _ _ h=>h) hs (fun _ h=>h) (fun b1 e1=>hother b1 (fun e2=>hjk ?_)) hOR⟩;subst e2;exact h.injB j k oj o B _ b1 hj hk hB hβ e1 rfl
 ·intro j j' o1 o2 B1 B2 b1 h1 h2 h3 h4 h5 h6;have hx:∀ (j:Nat) (o1:aF),aL obj [(k,some o')] j=some o1->∃ o2,obj j=some o2:=fun j o1 h=>by
   simp only[aL]at h;split at h
   ·rename_i e;exact⟨o,by rw[e];exact hk⟩
   ·exact⟨_,h⟩
  obtain⟨p1,q1⟩:=hx j o1 h1;obtain⟨p2,q2⟩:=hx j' o2 h2;exact h.injB j j' p1 p2 B1 B2 b1 q1 q2 h3 h4 h5 h6
 ·intro j o1 B1 b1 h1 h2 h3;have hx:∃ o2,obj j=some o2:=by
   simp only[aL]at h1;split at h1
   ·rename_i e;exact⟨o,by rw[e];exact hk⟩
   ·exact⟨_,h1⟩
  obtain⟨p1,q1⟩:=hx;have:=h.ownB j p1 B1 b1 q1 h2 h3;rw[hsize];exact this
 ·intro b1 hb1;rw[hsize];exact h.lt b1 hb1
 ·exact h.up
 ·intro b1 hb1 hno;rw[hother b1 (fun e1=>?_)]
  ·exact h.keep b1 hb1 hno
  ·subst e1;rcases hO with hO |hO
   ·exact hno hO
   ·omega
 ·rw[hsize];exact h.le
 ·rw[hos];exact h.os
 ·rw[htape];exact h.tape
 ·rw[hout];exact h.output
 ·exact h.anch
 ·exact h.vars.mono hs (fun _ h=>h)
theorem Mem.drop (h:Mem P w0 O0 β I obj w) (obj':Nat->Option aF) (hsub:∀ k o,obj' k=some o->obj k=some o):Mem P w0 O0 β I obj' w:=
 ⟨fun k o hk=>h.objs k o (hsub k o hk),fun k k' o o' B B' b h1 h2=>h.injB k k' o o' B B' b (hsub _ _ h1) (hsub _ _ h2),fun k o B b h1=>h.ownB k o B b (hsub _ _ h1),h.lt,h.up,h.keep,h.le,h.os,h.tape,h.output,h.anch,h.vars⟩
theorem Mem.below {w':World} {I':Nat->Prop} (h:Mem P w0 O0 β I obj w) (hb:Below w.heap.size w w') (hi:∀ b,I b->I' b) (hlt:∀ b,I' b->b < w'.heap.size) (hI:∀ b k o B,I' b->obj k=some o->β k=some B->B.num=some b->False) (hup:∀ b,I' b->O0.imm b∨O0.own b∨w0.heap.size<=b):
 Same I w w'∧Mem P w0 O0 β I' obj w':=by
 have hs:Same I w w':=fun b hb'=>hb.block b (h.lt b hb');refine⟨hs,?_⟩;constructor
 ·intro k o hk;obtain⟨B,hB,hO⟩:=h.objs k o hk;exact⟨B,hB,OR.mono (fun _ _ h=>h) hs hi (fun b e=>hb.block b (h.ownB k o B b hk hB e).2.1) hO⟩
 ·exact h.injB
 ·intro k o B b h1 h2 h3;obtain⟨a,b',c⟩:=h.ownB k o B b h1 h2 h3;exact⟨fun hb2=>hI b k o B hb2 h1 h2 h3,Nat.lt_of_lt_of_le b' hb.size,c⟩
 ·exact hlt
 ·exact hup
 ·intro b hb1 hno;rw[hb.block b (by have:=h.le;omega)];exact h.keep b hb1 hno
 ·have:=h.le;have:=hb.size;omega
 ·rw[hb.os];exact h.os
 ·rw[hb.tape];exact h.tape
 ·rw[hb.output];exact h.output
 ·exact h.anch
 ·exact h.vars.mono hs hi
theorem Mem.weak {obj':Nat->Option aF} (h:Mem P w0 O0 β I obj w) (ho:∀ k o',obj' k=some o'->∃ o,obj k=some o∧∀ B,β k=some B->OR P β w I o B->OR P β w I o' B):Mem P w0 O0 β I obj' w:=by
 constructor
 ·intro k o' hk;obtain⟨o,h1,h2⟩:=ho k o' hk;obtain⟨B,hB,hO⟩:=h.objs k o h1;exact⟨B,hB,h2 B hB hO⟩
 ·intro k k' o o' B B' b h1 h2;obtain⟨q,g1,_⟩:=ho k o h1;obtain⟨q',g2,_⟩:=ho k' o' h2;exact h.injB k k' q q' B B' b g1 g2
 ·intro k o B b h1;obtain⟨q,g1,_⟩:=ho k o h1;exact h.ownB k q B b g1
 ·exact h.lt
 ·exact h.up
 ·exact h.keep
 ·exact h.le
 ·exact h.os
 ·exact h.tape
 ·exact h.output
 ·exact h.anch
 ·exact h.vars
theorem OR.wk {o:aF} {B:Blk} (h:OR P β w I o B):OR P β w I ⟨o.sz,bA o.rows⟩ B:=by
 cases B with
 |none=>simp only[OR]at h ⊢;simp[bA,h]
 | «at» b s n=>
  obtain⟨h1,c,e,h2,h3,h4⟩:=h;exact⟨h1,c,e,h2,h3,ORows.wk _ _ _ _ h4⟩
 |mp b=>
  obtain⟨es,cl,h1,hle,h2,h3⟩:=h;exact⟨es,cl,h1,by simpa[bA]using hle,fun e=>MRows.wk _ _ (h2 (by simpa[bA]using e)),h3⟩
theorem Mem.wkAt {k:Nat} {sz:Nat} {rows:List (List AV)} (h:Mem P w0 O0 β I (aL obj [(k,some ⟨sz,rows⟩)]) w):Mem P w0 O0 β I (aL obj [(k,some ⟨sz,bA rows⟩)]) w:=by
 refine h.weak fun j o' hj=>?_;simp only[aL]at hj ⊢;by_cases e:j=k
 ·rw[if_pos e]at hj ⊢;injection hj with hj;subst hj;exact⟨_,rfl,fun B _ hB=>OR.wk hB⟩
 ·rw[if_neg e]at hj ⊢;exact⟨o',hj,fun _ _ h=>h⟩
theorem Mem.drew (h:Mem P w0 O0 β I obj w):Mem P w0 O0 β I obj w.drew:=by
 have hb:Below w.heap.size w w.drew:=⟨rfl,rfl,rfl,Nat.le_refl _,fun _ _=>rfl⟩;exact (h.below hb (fun _ h=>h) h.lt (fun b k o B h1 h2 h3 h4=>(h.ownB k o B b h2 h3 h4).1 h1) h.up).2
end
def nob:Nat->Option Blk:=fun _=>none
def TV.av:TV->AV
 | .s x=> .t x
 | .a cs=> .agg (cs.map .t)
inductive RC where
 |d (x:TV)
 |fresh (sz:Nat) (rows:List (List Tree))
 |whole (j len:Nat)
inductive RV where
 |one (c:RC)
 |tup (cs:List RC)
def ay (rows:List (List Tree)):List (List AV):=rows.map fun r=>r.map AV.t
def Qf (P:Program) (F:Nat->Prop) (sz:Nat) (rows:List (List Tree)) (w:World) (I:Nat->Prop) (v:Value):Prop:=
 (rows=[]∧v= .slice none 0 0)∨∃ b c e cap o s,v= .slice (some ⟨b,o,none⟩) rows.length cap∧F b∧¬ I b∧w.heap[b]? =some (.cells c e (0,0))∧rows.length<=cap∧s+cap*sz<=c.size∧
  ORows P nob w I (ay rows) c s sz∧(cap≠0->o=s)
def RCR (P:Program) (F:Nat->Prop) (β:Nat->Option Blk):RC->World->(Nat->Prop)->Value->Prop
 | .d x,w,I,v=>TVR w I x v
 | .fresh sz rows,w,I,v=>Qf P F sz rows w I v
 | .whole j len,w,I,v=>VR P β w I (.own j 0 len) v
def J9 (P:Program) (F:Nat->Prop) (β:Nat->Option Blk):List RC->World->(Nat->Prop)->List Value->Prop
 |[],_,_,[]=>True
 |c::cs,w,I,v::vs=>RCR P F β c w I v∧J9 P F β cs w I vs
 |_,_,_,_=>False
def RVR (P:Program) (F:Nat->Prop) (β:Nat->Option Blk):RV->World->(Nat->Prop)->Value->Prop
 | .one c,w,I,v=>RCR P F β c w I v
 | .tup cs,w,I,v=>∃ vs:Array Value,v= .tuple vs∧J9 P F β cs w I vs.toList
def abb (w:World) (b:Nat):Prop:=w.heap.size<=b
def eO (P : Program) (f : FuncId) : Prop := ∃ fn, P.funcs[f]? = some fn ∧ fn.body.isSome = true ∧ (fn.name == "runtime.NumGoroutine") = false
def FnP (P:Program) (f:FuncId) (args:List AV) (r:RV):Prop:=
 eO P f∧∀ (w:World) (I:Nat->Prop) (vs:Array Value),(∀ b,I b->b < w.heap.size)->VarsOk w I->VRl P nob w I args vs.toList->Calls P f vs w (Xh w I (RVR P (abb w) nob r))
mutual
def Bor (P:Program) (get:Nat->Option aF):AV->AV->Prop
 | .t x,y=>y= .t x
 | .agg cs,y=>∃ cs',y= .agg cs'∧BorL P get cs cs'
 | .tup _,_=>False
 | .own k off len,y=>∃ o trows,get k=some o∧y= .t (.sl trows)∧(o.rows.drop off).take len=ay trows∧trows.length=len
 | .ptr k row off,y=>∃ o trow,get k=some o∧y= .rptr trow off∧o.rows[row]? =some (trow.map AV.t)
 | .rptr r o,y=>y= .rptr r o
 | .fn f first caps,y=>∃ first' caps',BorL P get first first'∧BorL P get caps caps'∧(y= .fn f first' caps'∨
  ∃ φ,y= .clo φ∧eO P f∧∀ args r,φ args r->FnP P f (first'++args.map TV.av++caps') (.one (.d r)))
 | .clo φ,y=>y= .clo φ
 | .mp _,_=>False
 | .oz k len,y=>∃ o trows,get k=some o∧y= .t (.sl trows)∧(o.rows.drop 0).take len=ay trows∧trows.length=len
 | .nilsl,y=>y= .t (.sl [])∨y= .nilsl
 | .ub,_=>False
 | .undef,_=>False
def BorL (P:Program) (get:Nat->Option aF):List AV->List AV->Prop
 |[],[]=>True
 |x::xs,y::ys=>Bor P get x y∧BorL P get xs ys
 |_,_=>False
end
mutual
def refs:AV->List Nat
 | .own k _ _=>[k]
 | .ptr k _ _=>[k]
 | .mp k=>[k]
 | .oz k _=>[k]
 | .agg cs=>bH cs
 | .tup cs=>bH cs
 | .fn _ first caps=>bH first++bH caps
 |_=>[]
def bH:List AV->List Nat
 |[]=>[]
 |x::xs=>refs x++bH xs
end
def Lent (β:Nat->Option Blk) (obj:Nat->Option aF) (ids:List Nat) (I:Nat->Prop) (b:Nat):Prop:=
 I b∨∃ k o s n,k∈ids∧obj k=some o∧β k=some (.at b s n)
theorem Lent.sub {β:Nat->Option Blk} {obj:Nat->Option aF} {ids ids':List Nat} {I:Nat->Prop} (h:∀ k,k∈ids->k∈ids'):∀ b,Lent β obj ids I b->Lent β obj ids' I b:=by
 intro b hb;rcases hb with hb |⟨k,o,s,n,h1,h2⟩
 ·exact .inl hb
 ·exact .inr ⟨k,o,s,n,h k h1,h2⟩
section
variable {P:Program} {β:Nat->Option Blk} {w:World} {I:Nat->Prop}
theorem ORow.drop:∀ (n:Nat) (r:List AV) (c:Array Value) (off:Nat),ORow P β w I r c off->ORow P β w I (r.drop n) c (off+n)
 | 0,_,_,_,h=>by simpa using h
 |n+1,[],_,_,_=>by simp[ORow]
 |n+1,x::xs,c,off,⟨_,h⟩=>by
  have:=ORow.drop n xs c (off+1) h;rw[List.drop_succ_cons,show off+(n+1)=off+1+n by omega];exact this
theorem ORow.take:∀ (n:Nat) (r:List AV) (c:Array Value) (off:Nat),ORow P β w I r c off->ORow P β w I (r.take n) c off
 | 0,_,_,_,_=>by simp[ORow]
 |n+1,[],_,_,_=>by simp[ORow]
 |n+1,x::xs,c,off,⟨h1,h⟩=>⟨h1,ORow.take n xs c (off+1) h⟩
theorem ORows.drop:∀ (n:Nat) (rs:List (List AV)) (c:Array Value) (off sz:Nat),ORows P β w I rs c off sz->ORows P β w I (rs.drop n) c (off+n*sz) sz
 | 0,_,_,_,_,h=>by simpa using h
 |n+1,[],_,_,_,_=>by simp[ORows]
 |n+1,r::rs,c,off,sz,⟨_,_,h⟩=>by
  have:=ORows.drop n rs c (off+sz) sz h;rw[List.drop_succ_cons,show off+(n+1)*sz=off+sz+n*sz by rw[Nat.add_mul];omega];exact this
theorem ORows.take:∀ (n:Nat) (rs:List (List AV)) (c:Array Value) (off sz:Nat),ORows P β w I rs c off sz->ORows P β w I (rs.take n) c off sz
 | 0,_,_,_,_,_=>by simp[ORows]
 |n+1,[],_,_,_,_=>by simp[ORows]
 |n+1,r::rs,c,off,sz,⟨h1,h2,h⟩=>⟨h1,h2,ORows.take n rs c (off+sz) sz h⟩
theorem ORows.get:∀ (i:Nat) (rs:List (List AV)) (c:Array Value) (off sz:Nat) (r:List AV),ORows P β w I rs c off sz->rs[i]? =some r->r.length=sz∧ORow P β w I r c (off+i*sz)
 | 0,r::rs,c,off,sz,r',⟨h1,h2,_⟩,h=>by simp at h;subst h;exact⟨h1,by simpa using h2⟩
 |i+1,r::rs,c,off,sz,r',⟨_,_,h3⟩,h=>by
  have:=ORows.get i rs c (off+sz) sz r' h3 (by simpa using h);rw[show off+(i+1)*sz=off+sz+i*sz by rw[Nat.add_mul];omega];exact this
 |_,[],_,_,_,_,_,h=>by simp at h
theorem TRow.of_own {I':Nat->Prop} {b:Nat} {c:Array Value} {e:TypeId} {f:Nat×Nat} (hI:∀ b,I b->I' b) (hc:w.heap[b]? =some (.cells c e f)):∀ (r:List Tree) (off:Nat),ORow P β w I (r.map AV.t) c off->TRow w I' r b off
 |[],_,_=>by simp[TRow]
 |x::xs,off,⟨⟨v,h1,h2,_⟩,h3⟩=>by
  simp only[TRow];refine⟨⟨v,?_,?_⟩,TRow.of_own hI hc xs (off+1) h3⟩
  ·simp[World.cell?,hc,h1]
  ·simp only[VR]at h2;exact TR.mono (fun _ _=>rfl) hI x v h2
theorem TRows.of_own {I':Nat->Prop} {b:Nat} {c:Array Value} {e:TypeId} {f:Nat×Nat} (hI:∀ b,I b->I' b) (hc:w.heap[b]? =some (.cells c e f)):∀ (rs:List (List Tree)) (off sz:Nat),ORows P β w I (ay rs) c off sz->TRows w I' rs b off sz
 |[],_,_,_=>by simp[TRows]
 |r::rs,off,sz,h=>by
  simp only[ay,map_cons,ORows]at h;simp only[TRows];exact⟨by simpa using h.1,TRow.of_own hI hc r off h.2.1,TRows.of_own hI hc rs (off+sz) sz h.2.2⟩
theorem CloR.of_fn {f:FuncId} {first caps:Array Value} {first' caps':List AV} {φ:List TV->TV->Prop} (hcall:eO P f) (hgv:VarsOk w I) (hf:VRl P nob w I first' first.toList) (hc:VRl P nob w I caps' caps.toList)
 (h:∀ args r,φ args r->FnP P f (first'++args.map TV.av++caps') (.one (.d r))):CloR P w I φ (.func (.func f) first caps):=by
 obtain⟨fn,h1,h2,h3⟩:=hcall;refine⟨f,first,caps,rfl,fun fn' hfn=>?_,by simp[h1],?_⟩
 ·rw[h1]at hfn;injection hfn with hfn;subst hfn;exact⟨h2,h3⟩
 ·intro w' I' args vs r hI hS hlt hφ ha;have happ:∀ (a b:List AV) (u v:List Value),VRl P nob w' I' a u->VRl P nob w' I' b v->VRl P nob w' I' (a++b) (u++v):=by
   intro a
   induction a with
   |nil=>intro b u v h1 h2;cases u with
    |nil=>simpa using h2
    |cons=>simp[VRl]at h1
   |cons x xs ih=>intro b u v h1 h2;cases u with
    |nil=>simp[VRl]at h1
    |cons y ys=>simp only[VRl]at h1;simp only[cons_append,VRl];exact⟨h1.1,ih _ _ _ h1.2 h2⟩
  have hargs:∀ (args:List TV) (vs:List Value),TVRs w' I' args vs->VRl P nob w' I' (args.map TV.av) vs:=by
   intro args
   induction args with
   |nil=>intro vs h;cases vs with
    |nil=>simp[VRl]
    |cons=>simp[TVRs]at h
   |cons x xs ih=>intro vs h;cases vs with
    |nil=>simp[TVRs]at h
    |cons y ys=>
     simp only[TVRs]at h;simp only[map_cons,VRl];refine⟨?_,ih ys h.2⟩;cases x with
     |s x=>simpa[TV.av,VR,TVR]using h.1
     |a cs=>
      obtain⟨us,rfl,h5⟩:=h.1;simp only[TV.av,VR];refine⟨us,rfl,?_⟩;have:∀ (cs:List Tree) (us:List Value),TRl w' I' cs us->VRl P nob w' I' (cs.map AV.t) us:=by
       intro cs
       induction cs with
       |nil=>intro us h;cases us with
        |nil=>simp[VRl]
        |cons=>simp[TRl]at h
       |cons x xs ih=>intro us h;cases us with
        |nil=>simp[TRl]at h
        |cons y ys=>simp only[TRl]at h;simp only[map_cons,VRl,VR];exact⟨h.1,ih _ h.2⟩
      exact this cs us.toList h5
  have hm:∀ k B,nob k=some B->nob k=some B:=fun _ _ h=>h;have:=(h args r hφ).2 w' I' (first++vs++caps) hlt (hgv.mono hS hI) (by
   simp only[Array.toList_append];exact happ _ _ _ _ (happ _ _ _ _ (VRl.mono hm hS hI _ _ hf) (hargs _ _ ha)) (VRl.mono hm hS hI _ _ hc))
  exact this
variable {w0:World} {O0:Was} {obj:Nat->Option aF}
theorem Bor.own_sound (h:Mem P w0 O0 β I obj w) (ids:List Nat) {k off len:Nat} {y:AV} {v:Value} (hk:k∈ids) (hb:∃ o trows,obj k=some o∧y= .t (.sl trows)∧(o.rows.drop off).take len=ay trows∧trows.length=len) (hv:VR P β w I (.own k off len) v):VR P nob w (Lent β obj ids I) y v:=by
 obtain⟨o,trows,hget,rfl,hrows,hlen⟩:=hb;simp only[VR]at hv ⊢;simp only[TR];rcases hv with ⟨h1,rfl,h2,h3⟩ |⟨b,sz,n,cap,a,h1,rfl,h2,h3,h4⟩
 ·exact .inl ⟨eq_nil_of_length_eq_zero (by omega),none,0,rfl,fun _=>rfl⟩
 ·refine .inr ⟨b,a,cap,sz,by rw[hlen],by omega,.inr ⟨k,o,sz,n,hk,hget,h1⟩,?_⟩;by_cases h0:cap=0
  ·have:trows=[]:=eq_nil_of_length_eq_zero (by omega);subst this;simp[TRows]
  ·rw[h4 h0];obtain⟨B,hB,hO⟩:=h.objs k o hget;rw[h1]at hB;injection hB with hB;subst hB;obtain⟨hs,c,e,hc,_,hO⟩:=hO;have h4:=ORows.take len _ _ _ _ (ORows.drop off _ _ _ _ hO);rw[hrows]at h4;exact TRows.of_own (fun _ h=> .inl h) hc trows _ _ h4
mutual
theorem Bor.sound (h:Mem P w0 O0 β I obj w) (ids:List Nat):∀ (x y:AV) (v:Value),(∀ k,k∈refs x->k∈ids)->Bor P obj x y->VR P β w I x v->VR P nob w (Lent β obj ids I) y v
 | .t x,y,v,_,hb,hv=>by
  simp only[Bor]at hb;subst hb;simp only[VR]at hv ⊢;exact TR.mono (fun _ _=>rfl) (fun _ h=> .inl h) x v hv
 | .agg cs,y,v,hk,hb,hv=>by
  simp only[Bor]at hb;obtain⟨cs',rfl,hb⟩:=hb;simp only[VR]at hv ⊢;obtain⟨vs,rfl,hv⟩:=hv;exact⟨vs,rfl,BorL.sound h ids cs cs' vs.toList (by simpa[refs]using hk) hb hv⟩
 | .tup _,_,_,_,hb,_=>by simp[Bor]at hb
 | .oz k len,y,v,hk,hb,hv=>by
  rcases hv.oz_own with ⟨rfl,rfl⟩ |⟨_,hv⟩
  ·simp only[Bor]at hb;obtain⟨o,trows,hget,rfl,hrows,hlen⟩:=hb;simp only[VR,TR];exact .inl ⟨eq_nil_of_length_eq_zero hlen,none,0,rfl,fun _=>rfl⟩
  ·exact Bor.own_sound h ids (hk k (by simp[refs])) (by simpa only[Bor]using hb) hv
 | .own k off len,y,v,hk,hb,hv=>Bor.own_sound h ids (hk k (by simp[refs])) (by simpa only[Bor]using hb) hv
 | .ptr k row off,y,v,hk,hb,hv=>by
  simp only[Bor]at hb;obtain⟨o,trow,hget,rfl,hrow⟩:=hb;simp only[VR]at hv ⊢;obtain⟨b,sz,n,h1,rfl⟩:=hv;obtain⟨B,hB,hO⟩:=h.objs k o hget;rw[h1]at hB;injection hB with hB;subst hB;obtain⟨hs,c,e,hc,_,hO⟩:=hO;have h4:=(ORows.get row _ _ _ _ _ hO hrow).2;exact⟨b,n.s+row*sz,rfl,.inr ⟨k,o,sz,n,hk k (by simp[refs]),hget,h1⟩,TRow.of_own (fun _ h=> .inl h) hc trow _ h4⟩
 | .rptr r o,y,v,_,hb,hv=>by
  simp only[Bor]at hb;subst hb;simp only[VR]at hv ⊢;obtain⟨b,o',h1,h2,h3⟩:=hv;exact⟨b,o',h1,.inl h2,TRow.mono (fun _ _=>rfl) (fun _ h=> .inl h) r b o' h2 h3⟩
 | .fn f first caps,y,v,hk,hb,hv=>by
  simp only[Bor]at hb;obtain⟨first',caps',hb1,hb2,hy⟩:=hb;simp only[VR]at hv;obtain⟨fs,cs,rfl,hv1,hv2⟩:=hv;have h1:=BorL.sound h ids first first' fs.toList (fun k hk'=>hk k (by simp[refs,hk'])) hb1 hv1
  have h2:=BorL.sound h ids caps caps' cs.toList (fun k hk'=>hk k (by simp[refs,hk'])) hb2 hv2;rcases hy with rfl |⟨φ,rfl,hc,hφ⟩
  ·simp only[VR];exact⟨fs,cs,rfl,h1,h2⟩
  ·simp only[VR];exact CloR.of_fn hc (h.vars.mono (fun _ _=>rfl) (fun _ h=> .inl h)) h1 h2 hφ
 | .clo φ,y,v,_,hb,hv=>by
  simp only[Bor]at hb;subst hb;simp only[VR]at hv ⊢;exact CloR.mono (fun _ _=>rfl) (fun _ h=> .inl h) hv
 | .nilsl,y,v,_,hb,hv=>by
  simp only[Bor]at hb;rcases hb with rfl |rfl
  ·simp only[VR]at hv ⊢;simp only[TR];exact .inl ⟨trivial,none,0,hv,fun _=>rfl⟩
  ·simpa only[VR]using hv
 | .ub,_,_,_,hb,_=>by simp[Bor]at hb
 | .undef,_,_,_,hb,_=>by simp[Bor]at hb
theorem BorL.sound (h:Mem P w0 O0 β I obj w) (ids:List Nat):∀ (xs ys:List AV) (vs:List Value),(∀ k,k∈bH xs->k∈ids)->BorL P obj xs ys->VRl P β w I xs vs->VRl P nob w (Lent β obj ids I) ys vs
 |[],[],[],_,_,_=>by simp[VRl]
 |x::xs,y::ys,v::vs,hk,hb,hv=>by
  simp only[BorL]at hb;simp only[VRl]at hv ⊢;exact⟨Bor.sound h ids x y v (fun k hk'=>hk k (by simp[bH,hk'])) hb.1 hv.1,BorL.sound h ids xs ys vs (fun k hk'=>hk k (by simp[bH,hk'])) hb.2 hv.2⟩
 |[],_::_,_,_,hb,_=>by simp[BorL]at hb
 |_::_,[],_,_,hb,_=>by simp[BorL]at hb
 |[],[],_::_,_,_,hv=>by simp[VRl]at hv
 |_::_,_::_,[],_,_,hv=>by simp[VRl]at hv
end
end
inductive TyK where
 |slice (e:TypeId)
 |arr (n:Nat) (e:TypeId)
 |struct (fs:List (Nat×TypeId))
 |bool
 |str
 |int (k:IntKind)
 |map (k e:TypeId)
 |other
structure TyI where
 size:Nat
 bytes:Nat
 agg:Bool
 zero:List Value
 k:TyK
 cmp:List Nat
abbrev Tab:=Nat->Option TyI
def kOk:TyK->TypeDesc->Prop
 | .slice e,d=>d= .slice e
 | .arr n e,d=>d= .array n e
 | .struct fs,d=>∃ fa:Array Field,d= .struct fa∧fa.toList.map (fun f=>(f.offset,f.type))=fs
 | .bool,d=>d= .bool
 | .str,d=>d= .string
 | .int k,d=>d= .int k
 | .map k e,d=>d= .map k e
 | .other,_=>True
def isAggD:TypeDesc->Bool
 | .struct _ | .array _ _=>true
 |_=>false
def oneCellB:Value->Bool
 | .agg _ | .tuple _=>false
 |_=>true
theorem jZ {v:Value} (h:oneCellB v=true):oneCell v:=by cases v<;>first |exact trivial |(simp [oneCellB]at h)
def Ka (P:Program) (f:Field) (kd:Nat):Bool:=
 (f.name != "_") && match P.underlying f.type with
  |some (.int _)=>kd==0
  |some .bool=>kd==1
  |some .string=>kd==2
  |_=>false
def cmpFields (P:Program):Nat->List Field->List Nat->Bool
 |_,[],[]=>true
 |n,f::fs,k::ks=>f.offset==n&&Ka P f k&&cmpFields P (n+1) fs ks
 |_,_,_=>false
def zForm (agg:Bool):Value->Bool
 | .agg _=>agg
 | .tuple _=>false
 |_=>!agg
structure TyOk (P:Program) (t:TypeId) (ti:TyI):Prop where
 ex:∃ info d z,P.info? t=some info∧P.underlying t=some d∧info.size=ti.size∧info.bytes=ti.bytes∧info.zero=some z∧z.cells.toList=ti.zero∧isAggD d=ti.agg∧kOk ti.k d
 one:ti.zero.all oneCellB=true
 len:ti.zero.length=ti.size
 form:∀ info z,P.info? t=some info->info.zero=some z->zForm ti.agg z=true
 cmp:ti.cmp≠[]->(∃ fa:Array Field,P.underlying t=some (.struct fa)∧P.stoodInHeld t=false∧P.eqGuardType P.depth t=false∧cmpFields P 0 fa.toList ti.cmp=true)∨(ti.cmp=[9]∧P.eqGuardType P.depth t=false)
def bI (P:Program) (T:Tab):Prop:=∀ t ti,T t=some ti->TyOk P t ti
def fC:List Prop->Prop
 |[]=>True
 |[p]=>p
 |p::q::r=>p∧fC (q::r)
structure Out where
 v:AV
 upd:List (Nat×Option aF)
 obs:List Prop
@[reducible] def Out.ob (o:Out):Prop:=fC o.obs
def nid (i:Nat):Nat:=1000000+64*i
inductive LH where
 |rows (tr:List (List Tree))
 |row (tr:List Tree)
 |fn
 |clo (φ:List TV->TV->Prop)
 |mut (j:Nat)
 |nil
 |emp
 |fnw
 |agw
 |agd
inductive OB where
 |dat (p:Nat×List (List Tree))
 |cel (hs:List (List LH))
inductive Orc where
 |none
 |row (r:List AV)
 |set (r:List AV) (rs:List (List AV))
 |trow (r:List Tree)
 |num (n:Int)
 |rows (rs:List (List AV))
 |tsub (rows:List (List Tree))
 |call (hs:List LH) (r:RV) (keep:Bool)
 |cclo (hs:List LH) (args:List TV) (r:TV) (keep:Bool)
 |ext (n:Int)
 |frz (ids:List Nat) (fr:Operand->AV) (orc:Orc)
 |callw (ids:List Nat) (os:List (Nat×List (List Tree))) (os':List (Option (Nat×List (List Tree)))) (hs:List LH) (r:RV) (keep:Bool)
 |callg (ids lids:List Nat) (bs:List OB) (hs:List LH) (os':List (Nat×aF)) (rv:AV) (keep:Bool)
def pv (v:AV):Option Out:=some ⟨v,[],[]⟩
def pvo (v:AV) (ob:Prop):Option Out:=some ⟨v,[],[ob]⟩
def cv:Value->AV
 | .slice none 0 0=> .nilsl
 |v=>if oneCellB v then .t (.sc v)else .undef
def opv (env:Nat->AV):Operand->AV
 | .tmp t=>env t
 | .const v=>cv v
 | .global g=>match gvar g with
  |some row=> .rptr (row.map Tree.sc) 0
  |none=> .undef
 | .func f=> .fn f [] []
def jK:AV->Bool
 | .agg _ | .tup _ | .undef=>false
 |_=>true
def cellsOf:AV->Option (List AV)
 | .agg cs=>if cs.all jK then some cs else none
 | .tup _ | .undef=>none
 |x=>some [x]
def part' (agg:Bool) (size:Nat) (cs:List AV):Option AV:=
 if cs.length=size then (if agg then some (.agg cs)else match cs with |[x]=>if jK x then some x else none |_=>none)else none
def put' (r:List AV) (off:Nat) (cs:List AV):List AV:=r.take off++cs++r.drop (off+cs.length)
def Kb (op:BinOp) (k:IntKind) (a b:Int):Option (Value×List Prop):=
 match op with
 | .add=>some (.int k (k.wrap (a+b)),[])
 | .sub=>some (.int k (k.wrap (a - b)),[])
 | .mul=>some (.int k (k.wrap (a*b)),[])
 | .quo=>some (.int k (k.wrap (a.tdiv b)),[b≠0])
 | .rem=>some (.int k (a.tmod b),[b≠0])
 | .and=>some (.int k (bits .and k a b),[])
 | .or=>some (.int k (bits .or k a b),[])
 | .xor=>some (.int k (bits .xor k a b),[])
 | .andNot=>some (.int k (bits .andNot k a b),[])
 | .shl=>some (.int k (k.wrap (a*2 ^ b.toNat)),[0<=b∧b<=k.bits])
 | .shr=>some (.int k (a/2 ^ b.toNat),[0<=b∧b<=k.bits])
 | .eql=>some (.bool (a==b),[])
 | .neq=>some (.bool (a != b),[])
 | .lss=>some (.bool (decide (a < b)),[])
 | .leq=>some (.bool (decide (a<=b)),[])
 | .gtr=>some (.bool (decide (a>b)),[])
 | .geq=>some (.bool (decide (a>=b)),[])
def Dp:Nat->AV->AV->Option Bool
 | 0,.t (.sc (.int j a)),.t (.sc (.int k b))=>if j=k then some (a==b)else none
 | 1,.t (.sc (.bool a)),.t (.sc (.bool b))=>some (a==b)
 | 2,.t (.sc (.string a)),.t (.sc (.string b))=>some (a.toList==b.toList)
 |_,_,_=>none
def mq:List Nat->List AV->List AV->Option Bool
 |[],[],[]=>some true
 |k::ks,x::xs,y::ys=>(Dp k x y).bind fun a=>(mq ks xs ys).bind fun b=>some (a&&b)
 |_,_,_=>none
theorem ZB:∀ xs ys:List AV,mq [9] xs ys=none:=by intro xs ys;cases xs<;>cases ys<;>simp[mq,Dp]
def Nw (T:Tab) (op:BinOp) (t:TypeId) (x y:AV):Option Out:=
 match x,y with
 | .t (.sc (.int k a)),.t (.sc (.int yk b))=>if k=yk∨op= .shl∨op= .shr then (Kb op k a b).bind fun (v,obs)=>some ⟨.t (.sc v),[],obs⟩else none
 | .t (.sc (.string a)),.t (.sc (.string b))=>match op with
  | .eql=>pv (.t (.sc (.bool (a.toList==b.toList))))
  | .neq=>pv (.t (.sc (.bool (!(a.toList==b.toList)))))
  | .lss=>pv (.t (.sc (.bool (Op.bytesLess a.toList b.toList))))
  | .gtr=>pv (.t (.sc (.bool (!(Op.bytesLess a.toList b.toList || a.toList==b.toList)))))
  | .add=>pvo (.t (.sc (.string (a++b)))) (a.size+b.size<=maxLen)
  |_=>none
 | .t (.sc (.bool a)),.t (.sc (.bool b))=>(T t).bind fun ti=>match ti.k,op with
  | .bool,.eql=>pv (.t (.sc (.bool (a==b))))
  | .bool,.neq=>pv (.t (.sc (.bool (!(a==b)))))
  |_,_=>none
 | .agg xs,.agg ys=>(T t).bind fun ti=>if ti.cmp=[]then none else (mq ti.cmp xs ys).bind fun b=>match op with
  | .eql=>pv (.t (.sc (.bool b)))
  | .neq=>pv (.t (.sc (.bool (!b))))
  |_=>none
 |_,_=>none
def aUn (op:UnOp) (x:AV):Option Out:=
 match op,x with
 | .not,.t (.sc (.bool b))=>pv (.t (.sc (.bool (!b))))
 | .neg,.t (.sc (.int k n))=>pv (.t (.sc (.int k (k.wrap (0 - n)))))
 |_,_=>none
def xL (mx:Bool) (k:IntKind):Int->List AV->Option Int
 |a,[]=>some a
 |a,.t (.sc (.int k' b))::r=>if k'=k then xL mx k (if mx then max a b else min a b) r else none
 |_,_=>none
def aMm (mx:Bool) (args:List AV):Option Out:=
 match args with
 | .t (.sc (.int k a))::r=>(xL mx k a r).bind fun n=>pv (.t (.sc (.int k n)))
 |_=>none
def wo (T:Tab) (t:TypeId) (x:AV) (orc:Orc) (get:Nat->Option aF):Option Out:=
 (T t).bind fun ti=>match x with
 | .ptr k row off=>(get k).bind fun o=>match orc with
  | .row r=>(part' ti.agg ti.size ((r.drop off).take ti.size)).bind fun v=>pvo v (o.rows[row]? =some r)
  |_=>(o.rows[row]?).bind fun r=>(part' ti.agg ti.size ((r.drop off).take ti.size)).bind pv
 | .rptr r off=>(part' ti.agg ti.size (((r.drop off).take ti.size).map AV.t)).bind pv
 |_=>none
def Kc (T:Tab) (t:TypeId) (x y:AV) (orc:Orc) (get:Nat->Option aF):Option Out:=
 (T t).bind fun ti=>(cellsOf y).bind fun cs=>if cs.length=ti.size then match x with
 | .ptr k row off=>(get k).bind fun o=>match orc with
  | .set r rs=>if off+cs.length<=r.length then some ⟨.undef,[(k,some ⟨o.sz,rs⟩)],[o.rows[row]? =some r∧rs=bA (o.rows.set row (put' r off cs))]⟩else none
  |_=>(o.rows[row]?).bind fun r=>if off+cs.length<=r.length then some ⟨.undef,[(k,some ⟨o.sz,o.rows.set row (put' r off cs)⟩)],[]⟩else none
 |_=>none else none
def uy (T:Tab) (t:TypeId) (f:Nat):Option (Nat×TyI):=
 (T t).bind fun ti=>match ti.k with
 | .struct fs=>(fs[f]?).bind fun (off,u)=>(T u).bind fun ui=>if ui.size=0 then none else some (off,ui)
 |_=>none
def rR (T:Tab) (t:TypeId) (x:AV) (f:Nat):Option Out:=
 (uy T t f).bind fun (d,_)=>match x with
 | .ptr k row off=>pv (.ptr k row (off+d))
 | .rptr r off=>pv (.rptr r (off+d))
 |_=>none
def Ke (T:Tab) (t:TypeId) (x:AV) (f:Nat):Option Out:=
 (uy T t f).bind fun (d,ui)=>match x with
 | .agg cs=>(part' ui.agg ui.size ((cs.drop d).take ui.size)).bind pv
 |_=>none
def gZ (T:Tab) (t:TypeId) (x i:AV) (orc:Orc) (get:Nat->Option aF):Option Out:=
 (T t).bind fun ti=>match ti.k,i with
 | .slice e,.t (.sc (.int _ n))=>(T e).bind fun ei=>match x,orc with
  | .t (.sl rows),.trow r=>if r.length=ei.size then pvo (.rptr r 0) (0<=n∧rows[n.toNat]? =some r)else none
  | .own k off len,_=>(get k).bind fun o=>if o.sz=ei.size then pvo (.ptr k (off+n.toNat) 0) (0<=n∧n.toNat < len)else none
  |_,_=>none
 | .arr m e,.t (.sc (.int _ n))=>(T e).bind fun ei=>match x with
  | .ptr k row off=>pvo (.ptr k row (off+n.toNat*ei.size)) (0<=n∧n.toNat < m)
  | .rptr r off=>pvo (.rptr r (off+n.toNat*ei.size)) (0<=n∧n.toNat < m)
  |_=>none
 |_,_=>none
def zY (x:AV) (j:Nat):Option Out:=
 match x with
 | .tup vs=>(vs[j]?).bind pv
 |_=>none
def RS (T:Tab) (t:TypeId) (x:AV) (orc:Orc):Option Out:=
 (T t).bind fun ti=>match ti.k,x,orc with
 | .slice _,.t (.sl rows),.num n=>pvo (.t (.sc (.int .i64 n))) (n=(rows.length:Int))
 | .slice _,.own _ _ len,.num n=>pvo (.t (.sc (.int .i64 n))) (n=(len:Int))
 | .slice _,.own _ _ len,_=>pv (.t (.sc (.int .i64 (len:Int))))
 | .slice _,.oz _ len,_=>pv (.t (.sc (.int .i64 (len:Int))))
 | .slice _,.nilsl,_=>pv (.t (.sc (.int .i64 0)))
 | .str,.t (.sc (.string s)),_=>pv (.t (.sc (.int .i64 (s.size:Int))))
 |_,_,_=>none
def zo (place:Nat->Option (Nat×Nat)):List AV->List (Nat×AV)->Option (List AV)
 |cells,[]=>some cells
 |cells,(j,x)::rest=>(place j).bind fun (off,size)=>(cellsOf x).bind fun cs=>
  if cs.length=size∧off+cs.length<=cells.length then zo place (put' cells off cs) rest else none
def Kg (T:Tab) (t:TypeId) (parts:List (Nat×AV)):Option Out:=
 (T t).bind fun ti=>match ti.k with
 | .struct fs=>if fs.all (fun p=>(T p.2).isSome)then
  (zo (fun j=>(fs[j]?).bind fun p=>(T p.2).bind fun ui=>some (p.1,ui.size)) (ti.zero.map cv) parts).bind fun cells=>pv (.agg cells)else none
 | .arr _ e=>(T e).bind fun ei=>(zo (fun j=>some (j*ei.size,ei.size)) (ti.zero.map cv) parts).bind fun cells=>pv (.agg cells)
 |_=>none
def En (size:Nat):List (List AV)->List (Nat×AV)->Option (List (List AV))
 |rows,[]=>some rows
 |rows,(j,x)::rest=>(cellsOf x).bind fun cs=>if cs.length=size∧j < rows.length then En size (rows.set j cs) rest else none
def oN (T:Tab) (i:Nat) (t:TypeId) (len:Nat) (parts:List (Nat×AV)) (kp:Bool:=false):Option Out:=
 (T t).bind fun ti=>match ti.k with
 | .slice e=>(T e).bind fun ei=>if ei.size=0∨len*ei.size>2 ^ 24 then none else
  (En ei.size (List.replicate len (ei.zero.map cv)) parts).bind fun rows=>some ⟨.own (nid i) 0 len,[(nid i,some ⟨ei.size,if kp then rows else bA rows⟩)],[]⟩
 |_=>none
def Kh (T:Tab) (i:Nat) (e:TypeId):Option Out:=
 (T e).bind fun ti=>some ⟨.ptr (nid i) 0 0,[(nid i,some ⟨ti.size,[ti.zero.map cv]⟩)],[]⟩
def ZC (i:Nat) (x:AV):Option Out:=
 (cellsOf x).bind fun cs=>some ⟨.ptr (nid i) 0 0,[(nid i,some ⟨cs.length,[cs]⟩)],[]⟩
def bnd (d:Int):Option AV->Option Int
 |none=>some d
 |some (.t (.sc (.int _ n)))=>some n
 |_=>none
def Ki (T:Tab) (t:TypeId) (x:AV) (lo hi:Option AV) (orc:Orc) (get:Nat->Option aF):Option Out:=
 (T t).bind fun ti=>match ti.k with
 | .slice e=>(T e).bind fun ei=>match x with
  | .own k off len=>(get k).bind fun o=>if o.sz=ei.size then (bnd 0 lo).bind fun l=>(bnd len hi).bind fun h=>
   pvo (.own k (off+l.toNat) (h.toNat - l.toNat)) (0<=l∧l<=h∧h<=(len:Int))else none
  | .t (.sl rows)=>match orc with
   | .tsub rs=>(bnd 0 lo).bind fun l=>(bnd rows.length hi).bind fun h=>
    pvo (.t (.sl rs)) (0<=l∧l<=h∧h<=(rows.length:Int)∧rs=(rows.drop l.toNat).take (h.toNat - l.toNat)∧(∀ r∈rows,r.length=ei.size))
   |_=>none
  |_=>none
 |_=>none
def Kj (size:Nat) (y:AV) (get:Nat->Option aF):Option (Nat×Prop×List (List AV)):=
 match y with
 | .own k off len=>(get k).bind fun o=>if o.sz=size then some (len,True,(o.rows.drop off).take len)else none
 | .t (.sl rows)=>some (rows.length,∀ r∈rows,r.length=size,ay rows)
 |_=>none
def uz (T:Tab) (i:Nat) (t:TypeId) (x y:AV) (orc:Orc) (get:Nat->Option aF):Option Out:=
 (T t).bind fun ti=>match ti.k with
 | .slice e=>(T e).bind fun ei=>match orc with
  | .rows rs=>(Kj ei.size y get).bind fun (n,ob,new)=>match x with
   | .own k off len=>(get k).bind fun o=>if o.sz=ei.size then
    some ⟨.own (nid i) 0 rs.length,[(nid i,some ⟨ei.size,rs⟩),(k,none)],[ob∧(o.rows.drop off).length=len∧new.length=n∧rs=o.rows.drop off++new∧(len+n)*ei.bytes<=140737488355328∧len+n<=maxLen]⟩else none
   | .nilsl=>some ⟨.own (nid i) 0 rs.length,[(nid i,some ⟨ei.size,rs⟩)],[ob∧new.length=n∧rs=new∧n*ei.bytes<=140737488355328∧n<=maxLen]⟩
   |_=>none
  |_=>none
 |_=>none
def wu (T:Tab) (i:Nat) (b:Builtin) (args:List AV) (tys:List TypeId) (orc:Orc) (get:Nat->Option aF):Option Out:=
 match b,args,tys with
 | .len,[x],[t]=>RS T t x orc
 | .max,args,_=>aMm true args
 | .min,args,_=>aMm false args
 | .append,[x,y],[t,u]=>if t=u then uz T i t x y orc get else none
 |_,_,_=>none
def RU (t:Bool) (x y:AV):AV:=
 match x,y with
 | .t (.sc (.bool p)),.t (.sc (.bool q))=> .t (.sc (.bool (bif t then p else q)))
 | .t (.sc (.int k p)),.t (.sc (.int k' q))=>if k=k' then .t (.sc (.int k (bif t then p else q)))else bif t then x else y
 |_,_=>bif t then x else y
theorem Kk (t:Bool) (x y:AV):RU t x y=if t=true then x else y:=by
 unfold RU;split
 ·cases t<;>rfl
 ·split
  ·rename_i h;subst h;cases t<;>rfl
  ·cases t<;>rfl
 ·cases t<;>rfl
def kF (T:Tab) (i:Nat) (o:Oper) (orc:Orc) (ρ:Operand->AV) (get:Nat->Option aF):Option Out:=
 match o.op with
 | .move x=>pv (ρ x)
 | .assign x=>pv (ρ x)
 | .pick c a b=>match ρ c with | .t (.sc (.bool t))=>pv (RU t (ρ a) (ρ b)) |_=>none
 | .alloc e=>Kh T i e
 | .box _ x=>ZC i (ρ x)
 | .build t parts=>Kg T t (parts.toList.map fun (j,x)=>(j,ρ x))
 | .buildSlice t len parts=>oN T i t len (parts.toList.map fun (j,x)=>(j,ρ x)) (match orc with | .row _=>true |_=>false)
 | .load t a=>wo T t (ρ a) orc get
 | .store t a x=>Kc T t (ρ a) (ρ x) orc get
 | .binOp op t x y _=>Nw T op t (ρ x) (ρ y)
 | .unOp op _ x=>aUn op (ρ x)
 | .makeFunc (.func f) first caps=>pv (.fn f (first.toList.map ρ) (caps.toList.map ρ))
 | .slice t x lo hi none=>Ki T t (ρ x) (lo.map ρ) (hi.map ρ) orc get
 | .fieldAddr t x f=>rR T t (ρ x) f
 | .field t x f=>Ke T t (ρ x) f
 | .indexAddr t x j=>gZ T t (ρ x) (ρ j) orc get
 | .extract x j=>zY (ρ x) j
 | .call { callee:= .builtin b,args:=args,argTypes:=tys }=>wu T i b (args.toList.map ρ) tys.toList orc get
 |_=>none
def Did (P:Program) (w0:World) (O0:Was) (β:Nat->Option Blk) (I:Nat->Prop) (obj:Nat->Option aF) (w:World) (i:Nat) (out:Out) (r:Result Next):Prop:=
 ∃ v' w' β' I',(r= .ok (.value v') w'∨(r= .ok .skip w'∧v'=undef))∧Step β I w (nid i) β' I' w'∧Mem P w0 O0 β' I' (aL obj out.upd) w'∧VR P β' w' I' out.v v'
section
variable {P:Program} {T:Tab} {w0:World} {O0:Was} {β:Nat->Option Blk} {I:Nat->Prop} {obj:Nat->Option aF} {w:World} {i:Nat}
theorem Did.pure (h:Mem P w0 O0 β I obj w) {x:AV} {ob:List Prop} {v:Value} (hv:VR P β w I x v):Did P w0 O0 β I obj w i ⟨x,[],ob⟩ (.ok (.value v) w):=
 ⟨v,w,β,I,.inl rfl,Step.refl ..,h,hv⟩
theorem VRl.length:∀ (xs:List AV) (vs:List Value),VRl P β w I xs vs->vs.length=xs.length
 |[],[],_=>rfl
 |x::xs,v::vs,h=>by simp only[VRl]at h;simp[VRl.length xs vs h.2]
 |[],_::_,h=>by simp[VRl]at h
 |_::_,[],h=>by simp[VRl]at h
theorem VRl.get:∀ (xs:List AV) (vs:List Value) (j:Nat) (x:AV),VRl P β w I xs vs->xs[j]? =some x->∃ v,vs[j]? =some v∧VR P β w I x v
 |x::xs,v::vs,0,x',h,hj=>by simp only[VRl]at h;simp at hj;subst hj;exact⟨v,rfl,h.1⟩
 |x::xs,v::vs,j+1,x',h,hj=>by simp only[VRl]at h;simpa using VRl.get xs vs j x' h.2 (by simpa using hj)
 |[],_,_,_,_,hj=>by simp at hj
 |_::_,[],_,_,h,_=>by simp[VRl]at h
theorem VRl.take:∀ (n:Nat) (xs:List AV) (vs:List Value),VRl P β w I xs vs->VRl P β w I (xs.take n) (vs.take n)
 | 0,_,_,_=>by simp[VRl]
 |n+1,[],[],_=>by simp[VRl]
 |n+1,x::xs,v::vs,h=>by simp only[VRl]at h;simp only[List.take_succ_cons,VRl];exact⟨h.1,VRl.take n xs vs h.2⟩
 |_+1,[],_::_,h=>by simp[VRl]at h
 |_+1,_::_,[],h=>by simp[VRl]at h
theorem VRl.drop:∀ (n:Nat) (xs:List AV) (vs:List Value),VRl P β w I xs vs->VRl P β w I (xs.drop n) (vs.drop n)
 | 0,_,_,h=>by simpa using h
 |n+1,[],[],_=>by simp[VRl]
 |n+1,x::xs,v::vs,h=>by simp only[VRl]at h;simpa using VRl.drop n xs vs h.2
 |_+1,[],_::_,h=>by simp[VRl]at h
 |_+1,_::_,[],h=>by simp[VRl]at h
theorem VRl.append:∀ (xs ys:List AV) (us vs:List Value),VRl P β w I xs us->VRl P β w I ys vs->VRl P β w I (xs++ys) (us++vs)
 |[],ys,[],vs,_,h=>by simpa using h
 |x::xs,ys,u::us,vs,h1,h2=>by simp only[VRl]at h1;simp only[cons_append,VRl];exact⟨h1.1,VRl.append xs ys us vs h1.2 h2⟩
 |[],_,_::_,_,h,_=>by simp[VRl]at h
 |_::_,_,[],_,h,_=>by simp[VRl]at h
theorem VR.one {x:AV} {v:Value} (hx:jK x=true) (h:VR P β w I x v):oneCell v:=by
 cases x<;>simp only[VR]at h
 case t x=>
  cases x with
  |sc u=>simp only[TR]at h;rw[h.1];exact h.2
  |sl rows=>simp only[TR]at h;rcases h with ⟨_,_,_,rfl,_⟩ |⟨b,off,cap,sz,rfl,_⟩<;>exact trivial
 case agg=>simp[jK]at hx
 case tup=>simp[jK]at hx
 case own k off len=>rcases h with ⟨_,rfl,_⟩ |⟨b,sz,n,cap,a,_,rfl,_⟩<;>exact trivial
 case ptr=>obtain⟨b,sz,n,_,rfl⟩:=h;exact trivial
 case rptr=>obtain⟨b,o,rfl,_⟩:=h;exact trivial
 case fn=>obtain⟨fs,cs,rfl,_⟩:=h;exact trivial
 case clo=>obtain⟨f,a,b,rfl,_⟩:=h;exact trivial
 case mp=>obtain⟨b,_,rfl⟩:=h;exact trivial
 case oz=>rcases h with ⟨_,rfl⟩ |⟨_,b,sz,n,cap,a,_,rfl,_⟩<;>exact trivial
 case nilsl=>subst h;exact trivial
 case ub=>obtain⟨b,rfl⟩:=h;exact trivial
 case undef=>simp[jK]at hx
theorem cells_one {v:Value} (h:oneCell v):v.cells=#[v]:=by cases v<;>first |rfl |exact h.elim
theorem kR {x:AV} {cs:List AV} {v:Value} (hc:cellsOf x=some cs) (h:VR P β w I x v):VRl P β w I cs v.cells.toList∧(∀ u∈v.cells.toList,oneCell u):=by
 have single:jK x=true->cs=[x]->VRl P β w I cs v.cells.toList∧(∀ u∈v.cells.toList,oneCell u):=fun hk e=>by
  have h1:=VR.one hk h;rw[cells_one h1,e];simp only[VRl];exact⟨⟨h,trivial⟩,fun u hu=>by simp at hu;rw[hu];exact h1⟩
 cases x<;>simp only[cellsOf,Option.some.injEq,reduceCtorEq]at hc
 case agg cs'=>
  split at hc
  ·injection hc with hc;subst hc;rename_i hall;simp only[VR]at h;obtain⟨vs,rfl,hvs⟩:=h;refine⟨hvs,fun u hu=>?_⟩;obtain⟨j,hj⟩:=List.getElem?_of_mem hu;have hlen:=VRl.length _ _ hvs;have hjl:j < cs'.length:=by
    have:=(List.getElem?_eq_some_iff.1 hj).1;simp only[Value.cells]at this;omega
   obtain⟨u',hu',hv'⟩:=VRl.get _ _ j _ hvs (List.getElem?_eq_getElem hjl);simp only[Value.cells]at hj;rw[hj]at hu';injection hu' with hu';subst hu';exact VR.one (all_eq_true.1 hall _ (List.getElem_mem hjl)) hv'
  ·cases hc
 all_goals exact single rfl hc.symm
theorem VR.cv {v:Value}:VR P β w I (cv v) v:=by
 unfold Gb.cv;split
 ·simp[VR]
 ·split
  ·rename_i h;simp only[VR,TR];exact⟨trivial,jZ h⟩
  ·simp[VR]
theorem VRl.cv:∀ (vs:List Value),VRl P β w I (vs.map cv) vs
 |[]=>by simp[VRl]
 |v::vs=>by simp only[map_cons,VRl];exact⟨VR.cv,VRl.cv vs⟩
theorem ORow.of_list (cs:List AV) (vs:List Value) (c:Array Value) (off:Nat) (h:VRl P β w I cs vs) (h1:∀ u∈vs,oneCell u) (hc:∀ j u,vs[j]? =some u->c[off+j]? =some u):ORow P β w I cs c off:=by
 rw[gG];intro j x hx;obtain⟨v,hv,hr⟩:=VRl.get _ _ j x h hx;exact⟨v,hc j v hv,hr,h1 v (List.mem_of_getElem? hv)⟩
theorem ORow.list:∀ (cs:List AV) (c:Array Value) (off:Nat),ORow P β w I cs c off->∃ vs:List Value,VRl P β w I cs vs∧(∀ u∈vs,oneCell u)∧∀ j u,vs[j]? =some u->c[off+j]? =some u
 |[],_,_,_=>⟨[],by simp[VRl],by simp,by simp⟩
 |x::xs,c,off,⟨⟨v,h1,h2,h3⟩,h4⟩=>by
  obtain⟨vs,g1,g2,g3⟩:=ORow.list xs c (off+1) h4;refine⟨v::vs,by simp only[VRl];exact⟨h2,g1⟩,fun u hu=>?_,fun j u hj=>?_⟩
  ·rcases mem_cons.1 hu with rfl |hu
   ·exact h3
   ·exact g2 u hu
  ·cases j with
   |zero=>simp at hj;subst hj;simpa using h1
   |succ j=>rw[show off+(j+1)=off+1+j by omega];exact g3 j u (by simpa using hj)
theorem TRow.list:∀ (cs:List Tree) (b off:Nat),TRow w I cs b off->∃ vs:List Value,VRl P β w I (cs.map AV.t) vs∧∀ j u,vs[j]? =some u->w.cell? ⟨b,off+j,none⟩=some u
 |[],_,_,_=>⟨[],by simp[VRl],by simp⟩
 |x::xs,b,off,h=>by
  simp only[TRow]at h;obtain⟨⟨v,h1,h2⟩,h4⟩:=h;obtain⟨vs,g1,g3⟩:=TRow.list xs b (off+1) h4;refine⟨v::vs,by simp only[map_cons,VRl,VR];exact⟨h2,g1⟩,fun j u hj=>?_⟩;cases j with
  |zero=>simp at hj;subst hj;simpa using h1
  |succ j=>rw[show off+(j+1)=off+1+j by omega];exact g3 j u (by simpa using hj)
theorem Dq {agg:Bool} {size:Nat} {cs:List AV} {v:AV} {vs:List Value} (hp:part' agg size cs=some v) (h:VRl P β w I cs vs):cs.length=size∧vs.length=size∧
 (agg=true->VR P β w I v (.agg vs.toArray))∧(agg=false->∃ u,vs=[u]∧VR P β w I v u):=by
 unfold part' at hp;split at hp
 ·rename_i hl;have hl2:=VRl.length _ _ h;refine⟨hl,by omega,?_,?_⟩
  ·rintro rfl;simp only[if_true,Option.some.injEq]at hp;subst hp;simp only[VR];exact⟨vs.toArray,rfl,h⟩
  ·rintro rfl;simp only[Bool.false_eq_true,if_false]at hp;split at hp
   ·split at hp
    ·injection hp with hp;subst hp
     match vs,h with
     |[u],h=>simp only[VRl]at h;exact⟨u,rfl,h.1⟩
     |[],h=>simp[VRl]at h
     |_::_::_,h=>simp[VRl]at h
    ·cases hp
   ·cases hp
 ·cases hp
section types
variable {t:TypeId} {ti:TyI} (ht:TyOk P t ti)
include ht
theorem TyOk.size:(sizeOf t).run P w= .ok ti.size w:=by
 obtain⟨info,d,z,h1,h2,h3,h4,h5,h6,h7,h8⟩:=ht.ex;simp[sizeOf,typeInfo,h1,h3]
theorem TyOk.agg:(isAgg t).run P w= .ok ti.agg w:=by
 obtain⟨info,d,z,h1,h2,h3,h4,h5,h6,h7,h8⟩:=ht.ex;rw[<- h7];cases d<;>simp[isAgg,run_underlying h2,isAggD]
theorem TyOk.zeroV:∃ z,(zeroValue t).run P w= .ok z w∧z.cells.toList=ti.zero:=by
 obtain⟨info,d,z,h1,h2,h3,h4,h5,h6,h7,h8⟩:=ht.ex;exact⟨z,by simp[zeroValue,typeInfo,h1,h5],h6⟩
end types
theorem addr_add (b o n:Nat):(⟨b,o,none⟩:Addr).add n=⟨b,o+n,none⟩:=by unfold Addr.add;split<;>simp_all
theorem rT {t:TypeId} {ti:TyI} (ht:TyOk P t ti) {b o:Nat} {cs:List AV} {v:AV} {vs:List Value} (hp:part' ti.agg ti.size cs=some v) (hr:VRl P β w I cs vs)
 (hc:∀ j u,vs[j]? =some u->w.cell? ⟨b,o+j,none⟩=some u):∃ u,(loadVar t ⟨b,o,none⟩).run P w= .ok u w∧VR P β w I v u:=by
 obtain⟨h1,h2,h3,h4⟩:=Dq hp hr;unfold loadVar;simp only[Sem.run_bind,ht.agg (w:=w),Result.andThen_ok];cases hag:ti.agg with
 |true=>
  refine⟨.agg vs.toArray,?_,h3 hag⟩;simp only[if_true,Sem.run_bind,ht.size (w:=w),Result.andThen_ok];rw[<- h2,run_loadCells_list w ⟨b,o,none⟩ vs (fun j u hj=>by rw[addr_add];exact hc j u hj)];simp
 |false=>
  obtain⟨u,rfl,hu⟩:=h4 hag;refine⟨u,?_,hu⟩;have:=hc 0 u rfl;simp only[Nat.add_zero]at this;simp[this]
theorem Ii (hT:bI P T) (h:Mem P w0 O0 β I obj w) {t:TypeId} {x:AV} {orc:Orc} {get:Nat->Option aF} {out:Out} {v:Value} (hg:∀ k o,get k=some o->obj k=some o)
 (ha:wo T t x orc get=some out) (hob:out.ob) (hx:VR P β w I x v):∃ u,(Instr.loadAt t v).run P w= .ok u w∧VR P β w I out.v u∧out.upd=[]:=by
 unfold wo at ha;cases hti:T t with
 |none=>simp[hti]at ha
 |some ti=>
  have ht:=hT t ti hti;simp only[hti,bind_some]at ha;cases x<;>simp only[reduceCtorEq]at ha
  case ptr k row off=>
   cases hk:get k with
   |none=>simp[hk]at ha
   |some o=>
    simp only[hk,bind_some]at ha;have key:∀ r,o.rows[row]? =some r->∀ u,part' ti.agg ti.size ((r.drop off).take ti.size)=some u->∃ z,(Instr.loadAt t v).run P w= .ok z w∧VR P β w I u z:=by
     intro r hr u hp;simp only[VR]at hx;obtain⟨b,sz,n,h1,rfl⟩:=hx;obtain⟨B,hB,hO⟩:=h.objs k o (hg k o hk);rw[h1]at hB;injection hB with hB;subst hB;obtain⟨hs,c,e,hc,_,hO⟩:=hO;have h4:=(ORows.get row _ _ _ _ _ hO hr).2;obtain⟨vs,g1,g2,g3⟩:=ORow.list _ _ _ (ORow.take ti.size _ _ _ (ORow.drop off _ _ _ h4));obtain⟨z,hz,hz2⟩:=rT ht (b:=b) (o:=n.s+row*sz+off) hp g1 (fun j u hj=>by simp[World.cell?,hc,g3 j u hj]);exact⟨z,by simp[Instr.loadAt,Instr.sureAddr,hz],hz2⟩
    have fin:∀ r ob,o.rows[row]? =some r->((part' ti.agg ti.size ((r.drop off).take ti.size)).bind fun v=>some (⟨v,[],ob⟩:Out))=some out->∃ u,(Instr.loadAt t v).run P w= .ok u w∧VR P β w I out.v u∧out.upd=[]:=by
     intro r ob hr hh;cases hp:part' ti.agg ti.size ((r.drop off).take ti.size)with
     |none=>simp[hp]at hh
     |some u=>
      simp only[hp,bind_some,Option.some.injEq]at hh;subst hh;obtain⟨z,hz⟩:=key r hr u hp;exact⟨z,hz.1,hz.2,rfl⟩
    cases orc
    case row r=>
     have hr:o.rows[row]? =some r:=by
      cases hp:part' ti.agg ti.size ((r.drop off).take ti.size)with
      |none=>simp[hp]at ha
      |some u=>simp only[hp,bind_some,pvo,Option.some.injEq]at ha;subst ha;exact hob
     exact fin r _ hr ha
    all_goals
     cases hr:o.rows[row]? with
     |none=>simp[hr]at ha
     |some r=>
      simp only[hr,bind_some]at ha;exact fin r _ hr ha
  case rptr r off=>
   cases hp:part' ti.agg ti.size (((r.drop off).take ti.size).map AV.t)with
   |none=>rw[hp]at ha;simp at ha
   |some u=>
    simp only[hp,bind_some,pv,Option.some.injEq]at ha;subst ha;simp only[VR]at hx;obtain⟨b,o,rfl,hI,hr⟩:=hx;have hdrop:∀ (n:Nat) (r:List Tree) (o:Nat),TRow w I r b o->TRow w I (r.drop n) b (o+n):=by
     intro n
     induction n with
     |zero=>intro r o h;simpa using h
     |succ n ih=>intro r o h;cases r with
      |nil=>simp[TRow]
      |cons x xs=>simp only[TRow]at h;rw[List.drop_succ_cons,show o+(n+1)=o+1+n by omega];exact ih xs (o+1) h.2
    have htake:∀ (n:Nat) (r:List Tree) (o:Nat),TRow w I r b o->TRow w I (r.take n) b o:=by
     intro n
     induction n with
     |zero=>intro r o h;simp[TRow]
     |succ n ih=>intro r o h;cases r with
      |nil=>simp[TRow]
      |cons x xs=>simp only[TRow]at h;simp only[List.take_succ_cons,TRow];exact⟨h.1,ih xs (o+1) h.2⟩
    obtain⟨vs,g1,g3⟩:=TRow.list (P:=P) (β:=β) _ _ _ (htake ti.size _ _ (hdrop off r o hr));obtain⟨z,hz,hz2⟩:=rT ht (b:=b) (o:=o+off) hp g1 g3;exact⟨z,by simp[Instr.loadAt,Instr.sureAddr,hz],hz2,rfl⟩
theorem RX (r:List AV) (off:Nat) (cs:List AV) (h:off+cs.length<=r.length):(put' r off cs).length=r.length:=by simp[put',length_take,length_drop];omega
theorem ZE (r:List AV) (off:Nat) (cs:List AV) (h:off+cs.length<=r.length) (j:Nat):(put' r off cs)[j]? =if j < off then r[j]? else if j < off+cs.length then cs[j - off]? else r[j]? :=by
 unfold put';have h1:(r.take off).length=off:=by simp[length_take];omega
 split
 ·rw[append_assoc,List.getElem?_append_left (by omega),List.getElem?_take];simp[*]
 ·split
  ·rw[append_assoc,List.getElem?_append_right (by omega),h1,List.getElem?_append_left (by omega)]
  ·rw[List.getElem?_append_right (by simp;omega)];simp only[length_append,h1,List.getElem?_drop];congr 1;omega
theorem Gl (h:Mem P w0 O0 β I obj w) {t:TypeId} {ti:TyI} (ht:TyOk P t ti) {k:Nat} {o:aF} {b sz:Nat} {n:Ex} (hk:obj k=some o) (hβ:β k=some (.at b sz n))
 {row off:Nat} {r:List AV} {cs:List AV} {v:Value} (hr:o.rows[row]? =some r) (hl:off+cs.length<=r.length) (hlen:cs.length=ti.size) (hcs:VRl P β w I cs v.cells.toList) (h1:∀ u∈v.cells.toList,oneCell u):
 ∃ w',(storeVar t ⟨b,n.s+row*sz+off,none⟩ v).run P w= .ok () w'∧Same I w w'∧Mem P w0 O0 β I (aL obj [(k,some ⟨o.sz,o.rows.set row (put' r off cs)⟩)]) w':=by
 obtain⟨B,hB,hO⟩:=h.objs k o hk;rw[hβ]at hB;injection hB with hB;subst hB;obtain⟨hs,c,e,hc,hn,hO⟩:=hO;have hO':=hO;rw[lS]at hO;have hrow:=hO row r hr;have hvl:=VRl.length _ _ hcs;have hfit:n.s+row*sz+off+cs.length<=c.size:=by
  by_cases h0:r.length=0
  ·have:off+cs.length=0:=(by omega);have hz:sz=0:=(by omega);have:row*sz=0:=(by rw[hz];simp);have:=n.h;omega
  ·have hlast:=(gG _ _ _).1 hrow.2 (r.length - 1) _ (List.getElem?_eq_getElem (by omega));obtain⟨u,hu,_⟩:=hlast;have:=(Array.getElem?_eq_some_iff.1 hu).1;omega
 have hst:=run_storeCells_at P b (n.s+row*sz+off) e v.cells.toList 0 c w hc (by omega) (fun u hu=>by
  have:=h1 u hu;cases u<;>first |rfl |exact this.elim)
 simp only[Nat.add_zero]at hst;generalize hc':(List.take (n.s+row*sz+off) c.toList++v.cells.toList++List.drop (n.s+row*sz+off+v.cells.toList.length) c.toList).toArray=c' at hst;have hsize:c'.size=c.size:=by rw[<- hc'];simp[length_take,length_drop];simp at hvl;omega
 refine⟨w.setRow b c',?_,?_⟩
 ·unfold storeVar;simp only[Sem.run_bind,ht.size (w:=w),Result.andThen_ok];rw[if_neg (by rw[<- Array.length_toList];omega)];simp only[hst]
 ·have hget:∀ j,c'[j]? =if j < n.s+row*sz+off then c[j]? else if j < n.s+row*sz+off+cs.length then v.cells.toList[j - (n.s+row*sz+off)]? else c[j]? :=by
   intro j;rw[<- hc'];have h1:(c.toList.take (n.s+row*sz+off)).length=n.s+row*sz+off:=(by simp[length_take];omega);simp only[List.getElem?_toArray];split
   ·rw[append_assoc,List.getElem?_append_left (by omega),List.getElem?_take,if_pos (by omega)];simp
   ·split
    ·rw[append_assoc,List.getElem?_append_right (by omega),h1,List.getElem?_append_left (by omega)]
    ·rw[List.getElem?_append_right (by simp only[length_append,h1];omega)];simp only[length_append,h1,List.getElem?_drop,Array.getElem?_toList];congr 1;omega
  refine Mem.write h hk hβ (c':=c') (e:=e) (setRow_heap w b c c' e (0,0) hc) (fun b' hb=>setRow_other w b b' c' hb) (by simp) rfl rfl rfl hs (by omega) ?_;rw[<- hs,lS];simp only;intro i' r' hi';rw[List.getElem?_set]at hi';have other:∀ (i':Nat) (r':List AV),i'≠row->o.rows[i']? =some r'->r'.length=sz∧ORow P β w I r' c' (n.s+i'*sz):=by
   intro i' r' hne hi';have hh:=hO i' r' hi';refine⟨hh.1,?_⟩;rw[gG];intro j x hx;obtain⟨u,hu⟩:=(gG _ _ _).1 hh.2 j x hx;have hj:j < sz:=(by have:=(List.getElem?_eq_some_iff.1 hx).1;omega);refine⟨u,?_,hu.2⟩;rw[hget];rcases Nat.lt_or_gt_of_ne hne with hlt |hgt
   ·have:(i'+1)*sz<=row*sz:=Nat.mul_le_mul_right _ hlt;rw[Nat.add_mul]at this;rw[if_pos (by omega)];exact hu.1
   ·have:(row+1)*sz<=i'*sz:=Nat.mul_le_mul_right _ hgt;rw[Nat.add_mul]at this;rw[if_neg (by omega),if_neg (by omega)];exact hu.1
  split at hi'
  ·rename_i hrow';subst hrow';split at hi'
   ·injection hi' with hi';subst hi';refine⟨by rw[RX r off cs hl];exact hrow.1,?_⟩;rw[gG];intro j x hx;rw[ZE r off cs hl]at hx;rw[hget];split at hx
    ·rw[if_pos (by omega)];exact (gG _ _ _).1 hrow.2 j x hx
    ·split at hx
     ·obtain⟨u,hu,hr2⟩:=VRl.get _ _ _ _ hcs hx;rw[if_neg (by omega),if_pos (by omega)];refine⟨u,?_,hr2,h1 u (List.mem_of_getElem? hu)⟩;rw[<- hu];congr 1;omega
     ·rw[if_neg (by omega),if_neg (by omega)];exact (gG _ _ _).1 hrow.2 j x hx
   ·cases hi'
  ·exact other i' r' (by omega) hi'
theorem Qg (hT:bI P T) (h:Mem P w0 O0 β I obj w) {t:TypeId} {x y:AV} {orc:Orc} {get:Nat->Option aF} {out:Out} {v u:Value} (hg:∀ k o,get k=some o->obj k=some o)
 (ha:Kc T t x y orc get=some out) (hob:out.ob) (hx:VR P β w I x v) (hy:VR P β w I y u):
 ∃ w',(Instr.storeAt t v u).run P w= .ok () w'∧Same I w w'∧Mem P w0 O0 β I (aL obj out.upd) w'∧out.v= .undef:=by
 unfold Kc at ha;cases hti:T t with
 |none=>simp[hti]at ha
 |some ti=>
  have ht:=hT t ti hti;simp only[hti,bind_some]at ha;cases hcs:cellsOf y with
  |none=>simp[hcs]at ha
  |some cs=>
   simp only[hcs,bind_some]at ha;obtain⟨hv1,hv2⟩:=kR hcs hy;split at ha
   ·rename_i hlen;cases x<;>simp only[reduceCtorEq]at ha
    case ptr k row off=>
     cases hk:get k with
     |none=>simp[hk]at ha
     |some o=>
      simp only[hk,bind_some]at ha;simp only[VR]at hx;obtain⟨b,sz,n,hβ,rfl⟩:=hx;have fin:∀ r,o.rows[row]? =some r->off+cs.length<=r.length->∃ w',(Instr.storeAt t (.pointer (some ⟨b,n.s+row*sz+off,none⟩)) u).run P w= .ok () w'∧Same I w w'∧Mem P w0 O0 β I (aL obj [(k,some ⟨o.sz,o.rows.set row (put' r off cs)⟩)]) w':=by
       intro r hr hl;obtain⟨w',h1,h2,h3⟩:=Gl h ht (hg k o hk) hβ hr hl hlen hv1 hv2;exact⟨w',by simp[Instr.storeAt,Instr.sureAddr,h1],h2,h3⟩
      cases orc
      case set r rs=>
       simp only at ha;split at ha
       ·rename_i hl;injection ha with ha;subst ha;obtain⟨hr,hrs⟩:=hob;obtain⟨w',h1,h2,h3⟩:=fin r hr hl;subst hrs;exact⟨w',h1,h2,h3.wkAt,rfl⟩
       ·cases ha
      all_goals
       cases hr:o.rows[row]? with
       |none=>simp[hr]at ha
       |some r=>
        simp only[hr,bind_some]at ha;split at ha
        ·rename_i hl;injection ha with ha;subst ha;obtain⟨w',h1,h2,h3⟩:=fin r hr hl;exact⟨w',h1,h2,h3,rfl⟩
        ·cases ha
   ·cases ha
end
section
variable {P:Program} {T:Tab} {w0:World} {O0:Was} {β:Nat->Option Blk} {I:Nat->Prop} {obj:Nat->Option aF} {w:World} {i:Nat}
theorem Eo (h:Mem P w0 O0 β I obj w) (hn:β (nid i)=none) {e:TypeId} {v:Value} {cs:List AV} (hcs:VRl P β w I cs v.cells.toList) (h1:∀ u∈v.cells.toList,oneCell u):
 ∃ w' β',(newVar e v).run P w= .ok ⟨w.heap.size,0,none⟩ w'∧Step β I w (nid i) β' I w'∧Mem P w0 O0 β' I (aL obj [(nid i,some ⟨cs.length,[cs]⟩)]) w'∧VR P β' w' I (.ptr (nid i) 0 0) (.pointer (some ⟨w.heap.size,0,none⟩)):=by
 obtain⟨hS,hM⟩:=Mem.alloc (o:=⟨cs.length,[cs]⟩) (c:=v.cells) (e:=e) h hn (by
  simp only[ORows,and_true,true_and];exact ORow.of_list cs _ _ 0 hcs h1 (fun j u hj=>by simpa using hj))
 refine⟨_,_,?_,hS,hM,?_⟩
 ·simp only[newVar,newRow,Sem.run_bind,run_newObj,Result.andThen_ok,Sem.run_pure];rfl
 ·simp only[VR];exact⟨w.heap.size,cs.length,_,by simp[ins];rfl,by simp⟩
theorem Qh (hT:bI P T) (h:Mem P w0 O0 β I obj w) (hn:β (nid i)=none) {e:TypeId} {out:Out} (ha:Kh T i e=some out):
 ∃ u w' β',(Instr.alloc e true (.tuple #[])).run P w= .ok u w'∧Step β I w (nid i) β' I w'∧Mem P w0 O0 β' I (aL obj out.upd) w'∧VR P β' w' I out.v u:=by
 unfold Kh at ha;cases hti:T e with
 |none=>simp[hti]at ha
 |some ti=>
  have ht:=hT e ti hti;simp only[hti,bind_some,Option.some.injEq]at ha;subst ha;obtain⟨z,hz,hz2⟩:=ht.zeroV (w:=w);obtain⟨w',β',h1,h2,h3,h4⟩:=Eo (i:=i) (e:=e) (v:=z) (cs:=ti.zero.map cv) h hn (by rw[hz2];exact VRl.cv _) (fun u hu=>jZ (all_eq_true.1 ht.one u (hz2 ▸ hu)));have hl:(ti.zero.map cv).length=ti.size:=by simp[ht.len]
  rw[hl]at h3;exact⟨_,w',β',by simp[Instr.alloc,hz,h1],h2,h3,h4⟩
theorem U2 (h:Mem P w0 O0 β I obj w) (hn:β (nid i)=none) {e:TypeId} {x:AV} {v:Value} {out:Out} (ha:ZC i x=some out) (hx:VR P β w I x v):
 ∃ u w' β',(Instr.box e v).run P w= .ok u w'∧Step β I w (nid i) β' I w'∧Mem P w0 O0 β' I (aL obj out.upd) w'∧VR P β' w' I out.v u:=by
 unfold ZC at ha;cases hcs:cellsOf x with
 |none=>simp[hcs]at ha
 |some cs=>
  simp only[hcs,bind_some,Option.some.injEq]at ha;subst ha;obtain⟨hv1,hv2⟩:=kR hcs hx;obtain⟨w',β',h1,h2,h3,h4⟩:=Eo (i:=i) (e:=e) h hn hv1 hv2;exact⟨_,w',β',by simp[Instr.box,h1],h2,h3,h4⟩
theorem RY (hT:bI P T) {t:TypeId} {f off:Nat} {ui:TyI} (hf:uy T t f=some (off,ui)):
 ∃ (fa:Array Field) (fd:Field),P.underlying t=some (.struct fa)∧fa[f]? =some fd∧fd.offset=off∧TyOk P fd.type ui∧ui.size≠0:=by
 unfold uy at hf;cases hti:T t with
 |none=>simp[hti]at hf
 |some ti=>
  have ht:=hT t ti hti;simp only[hti,bind_some]at hf;cases hk:ti.k<;>simp only[hk,reduceCtorEq]at hf
  case struct fs=>
   cases hj:fs[f]? with
   |none=>simp[hj]at hf
   |some p=>
    obtain⟨o,u⟩:=p;simp only[hj,bind_some]at hf;cases hu:T u with
    |none=>simp[hu]at hf
    |some ui'=>
     simp only[hu,bind_some]at hf;split at hf
     ·cases hf
     ·rename_i hne;simp only[Option.some.injEq,Prod.mk.injEq]at hf;obtain⟨rfl,rfl⟩:=hf;obtain⟨info,d,z,h1,h2,h3,h4,h5,h6,h7,h8⟩:=ht.ex;rw[hk]at h8;obtain⟨fa,rfl,hfs⟩:=h8;rw[<- hfs]at hj;simp only[List.getElem?_map,Array.getElem?_toList,Option.map_eq_some_iff,Prod.mk.injEq]at hj;obtain⟨fd,g1,g2,g3⟩:=hj;exact⟨fa,fd,h2,g1,g2,g3 ▸ hT u _ hu,hne⟩
theorem Gm (hT:bI P T) {t:TypeId} {x:AV} {f:Nat} {v:Value} {out:Out} (ha:rR T t x f=some out) (hx:VR P β w I x v):
 ∃ u,(Instr.fieldAt t v f).run P w= .ok u w∧VR P β w I out.v u∧out.upd=[]:=by
 unfold rR at ha;cases hf:uy T t f with
 |none=>simp[hf]at ha
 |some p=>
  obtain⟨d,ui⟩:=p;simp only[hf,bind_some]at ha;obtain⟨fa,fd,h1,h2,h3,h4,h5⟩:=RY hT hf;have hrun:∀ b o,(Instr.fieldAt t (.pointer (some ⟨b,o,none⟩)) f).run P w= .ok (.pointer (some ⟨b,o+d,none⟩)) w:=fun b o=>by simp[Instr.fieldAt,run_underlying h1,h2,Instr.sureAddr,fieldPlace,h4.size (w:=w),h5,h3,addr_add]
  cases x<;>simp only[reduceCtorEq]at ha
  case ptr k row off=>
   simp only[pv,Option.some.injEq]at ha;subst ha;simp only[VR]at hx ⊢;obtain⟨b,sz,n,g1,rfl⟩:=hx;exact⟨_,hrun _ _,⟨b,sz,n,g1,by rw[Nat.add_assoc]⟩,trivial⟩
  case rptr r off=>
   simp only[pv,Option.some.injEq]at ha;subst ha;simp only[VR]at hx ⊢;obtain⟨b,o,rfl,g1,g2⟩:=hx;exact⟨_,hrun _ _,⟨b,o,by rw[Nat.add_assoc],g1,g2⟩,trivial⟩
theorem RZ {t:TypeId} {ti:TyI} (ht:TyOk P t ti) {cs:List AV} {vs:List Value} {d:Nat} {v:AV} (hp:part' ti.agg ti.size ((cs.drop d).take ti.size)=some v) (hr:VRl P β w I cs vs):
 ∃ u,(part t vs.toArray d).run P w= .ok u w∧VR P β w I v u:=by
 obtain⟨h1,h2,h3,h4⟩:=Dq hp (VRl.take ti.size _ _ (VRl.drop d _ _ hr));unfold Go.part;simp only[Sem.run_bind,ht.agg (w:=w),Result.andThen_ok];cases hag:ti.agg with
 |true=>
  refine⟨.agg ((vs.drop d).take ti.size).toArray,?_,h3 hag⟩;simp only[if_true,Sem.run_bind,ht.size (w:=w),Result.andThen_ok,Sem.run_pure];congr 2;apply Array.ext';simp[List.extract_eq_take_drop]
 |false=>
  obtain⟨u,hu,hv⟩:=h4 hag;refine⟨u,?_,hv⟩;have:vs[d]? =some u:=by
   have h5:((vs.drop d).take ti.size)[0]? =some u:=(by rw[hu];rfl);rw[List.getElem?_take]at h5;split at h5
   ·simpa using h5
   ·cases h5
  simp[this]
theorem Qi (hT:bI P T) {t:TypeId} {x:AV} {f:Nat} {v:Value} {out:Out} (ha:Ke T t x f=some out) (hx:VR P β w I x v):
 ∃ u,(Instr.field t v f).run P w= .ok u w∧VR P β w I out.v u∧out.upd=[]:=by
 unfold Ke at ha;cases hf:uy T t f with
 |none=>simp[hf]at ha
 |some p=>
  obtain⟨d,ui⟩:=p;simp only[hf,bind_some]at ha;obtain⟨fa,fd,h1,h2,h3,h4,h5⟩:=RY hT hf;cases x<;>simp only[reduceCtorEq]at ha
  case agg cs=>
   cases hp:part' ui.agg ui.size ((cs.drop d).take ui.size)with
   |none=>simp[hp]at ha
   |some y=>
    simp only[hp,bind_some,pv,Option.some.injEq]at ha;subst ha;simp only[VR]at hx;obtain⟨vs,rfl,hvs⟩:=hx;obtain⟨u,hu,hv⟩:=RZ h4 hp hvs;refine⟨u,?_,hv,rfl⟩;simp[Instr.field,run_underlying h1,h2,h3,asAgg];simpa using hu
theorem TRows.get {b sz:Nat}:∀ (n:Nat) (rows:List (List Tree)) (off:Nat) (r:List Tree),TRows w I rows b off sz->rows[n]? =some r->r.length=sz∧TRow w I r b (off+n*sz)
 | 0,r::rs,off,r',h,hn=>by simp only[TRows]at h;simp at hn;subst hn;exact⟨h.1,by simpa using h.2.1⟩
 |n+1,r::rs,off,r',h,hn=>by
  simp only[TRows]at h;have:=TRows.get n rs (off+sz) r' h.2.2 (by simpa using hn);rw[show off+(n+1)*sz=off+sz+n*sz by rw[Nat.add_mul];omega];exact this
 |_,[],_,_,_,hn=>by simp at hn
theorem dF {t e:TypeId} {ti:TyI} (ht:TyOk P t ti) (hk:ti.k= .slice e):P.underlying t=some (.slice e):=by
 obtain⟨info,d,z,h1,h2,h3,h4,h5,h6,h7,h8⟩:=ht.ex;rw[hk]at h8;rw[h2,h8]
theorem wz {t e:TypeId} {n:Nat} {ti:TyI} (ht:TyOk P t ti) (hk:ti.k= .arr n e):P.underlying t=some (.array n e):=by
 obtain⟨info,d,z,h1,h2,h3,h4,h5,h6,h7,h8⟩:=ht.ex;rw[hk]at h8;rw[h2,h8]
theorem Gn (hT:bI P T) (h:Mem P w0 O0 β I obj w) {t:TypeId} {x j:AV} {orc:Orc} {get:Nat->Option aF} {v u:Value} {out:Out} (hg:∀ k o,get k=some o->obj k=some o)
 (ha:gZ T t x j orc get=some out) (hob:out.ob) (hx:VR P β w I x v) (hj:VR P β w I j u):
 ∃ z,(Instr.indexAt t v u).run P w= .ok z w∧VR P β w I out.v z∧out.upd=[]:=by
 unfold gZ at ha;cases hti:T t with
 |none=>simp[hti]at ha
 |some ti=>
  have ht:=hT t ti hti;simp only[hti,bind_some]at ha;split at ha
  ·rename_i e kd n hk;simp only[VR,TR]at hj;obtain⟨rfl,_⟩:=hj;have hund:=dF ht hk;cases hei:T e with
   |none=>simp[hei]at ha
   |some ei=>
    have he:=hT e ei hei;simp only[hei,bind_some]at ha;have hrun:∀ (b o len cap:Nat),0<=n->n.toNat < len->(Instr.indexAt t (.slice (some ⟨b,o,none⟩) len cap) (.int kd n)).run P w= .ok (.pointer (some ⟨b,o+n.toNat*ei.size,none⟩)) w:=by
     intro b o len cap h0 h1;have h2:n < (len:Int):=(by omega);simp[Instr.indexAt,asIntOf,run_underlying hund,h0,h2,he.size (w:=w),addr_add]
    split at ha
    ·rename_i rows r;split at ha
     ·rename_i hlen;simp only[pvo,Option.some.injEq]at ha;subst ha;obtain⟨h0,hr⟩:=hob;simp only[VR,TR]at hx;rcases hx with ⟨rfl,_⟩ |⟨b,off,cap,sz,rfl,h1,h2,h3⟩
      ·simp at hr
      ·have hlt:=(List.getElem?_eq_some_iff.1 hr).1;obtain⟨g1,g2⟩:=TRows.get _ _ _ _ h3 hr;refine⟨_,hrun _ _ _ _ h0 hlt,?_,rfl⟩;simp only[VR];exact⟨b,off+n.toNat*sz,by rw[<- g1,hlen];rfl,h2,g2⟩
     ·cases ha
    ·rename_i k off len;cases hk2:get k with
     |none=>simp[hk2]at ha
     |some o=>
      simp only[hk2,bind_some]at ha;split at ha
      ·rename_i hsz;simp only[pvo,Option.some.injEq]at ha;subst ha;obtain⟨h0,hlt⟩:=hob;simp only[VR]at hx ⊢;rcases hx with ⟨_,_,_,rfl⟩ |⟨b,sz,m,cap,a,h1,rfl,h2,h3,h4⟩
       ·omega
       ·obtain⟨B,hB,hO⟩:=h.objs k o (hg k o hk2);rw[h1]at hB;injection hB with hB;subst hB;have hs:sz=o.sz:=hO.1;refine⟨_,hrun _ _ _ _ h0 hlt,⟨b,sz,m,h1,?_⟩,trivial⟩;rw[h4 (by omega),hs,hsz,Nat.add_mul,Nat.add_assoc];rfl
      ·cases ha
    ·cases ha
  ·rename_i m e kd n hk;simp only[VR,TR]at hj;obtain⟨rfl,_⟩:=hj;have hund:=wz ht hk;cases hei:T e with
   |none=>simp[hei]at ha
   |some ei=>
    have he:=hT e ei hei;simp only[hei,bind_some]at ha;have hrun:∀ (b o:Nat),0<=n->n.toNat < m->(Instr.indexAt t (.pointer (some ⟨b,o,none⟩)) (.int kd n)).run P w= .ok (.pointer (some ⟨b,o+n.toNat*ei.size,none⟩)) w:=by
     intro b o h0 h1;have h2:n < (m:Int):=(by omega);simp[Instr.indexAt,asIntOf,run_underlying hund,Instr.sureAddr,h0,h2,he.size (w:=w),addr_add]
    cases x<;>simp only[reduceCtorEq]at ha
    case ptr k row off=>
     simp only[pvo,Option.some.injEq]at ha;subst ha;simp only[VR]at hx ⊢;obtain⟨b,sz,q,g1,rfl⟩:=hx;exact⟨_,hrun _ _ hob.1 hob.2,⟨b,sz,q,g1,by rw[Nat.add_assoc]⟩,trivial⟩
    case rptr r off=>
     simp only[pvo,Option.some.injEq]at ha;subst ha;simp only[VR]at hx ⊢;obtain⟨b,o,rfl,g1,g2⟩:=hx;exact⟨_,hrun _ _ hob.1 hob.2,⟨b,o,by rw[Nat.add_assoc],g1,g2⟩,trivial⟩
  ·cases ha
theorem Kl {x:AV} {j:Nat} {v:Value} {out:Out} (ha:zY x j=some out) (hx:VR P β w I x v):∃ u,(Instr.extract v j).run P w= .ok u w∧VR P β w I out.v u∧out.upd=[]:=by
 unfold zY at ha;split at ha
 ·rename_i vs;simp only[VR]at hx;obtain⟨us,rfl,hus⟩:=hx;cases hj:vs[j]? with
  |none=>simp[hj]at ha
  |some y=>
   simp only[hj,bind_some,pv,Option.some.injEq]at ha;subst ha;obtain⟨u,hu,hv⟩:=VRl.get _ _ j y hus hj;refine⟨u,?_,hv,rfl⟩;have:us[j]? =some u:=(by simpa using hu);simp[Instr.extract,this]
 ·cases ha
end
section
variable {P:Program} {T:Tab} {w0:World} {O0:Was} {β:Nat->Option Blk} {I:Nat->Prop} {obj:Nat->Option aF} {w:World} {i:Nat}
theorem Qj {op:BinOp} {t:TypeId} {k yk:IntKind} {a b:Int} {v:Value} {ob:List Prop} (hk:k=yk∨op= .shl∨op= .shr) (h:Kb op k a b=some (v,ob)) (hob:fC ob):
 (binOp op t (.int k a) (.int yk b)).run P w= .ok v w∧oneCell v:=by
 cases op<;>simp only[Kb,Option.some.injEq,Prod.mk.injEq]at h<;>obtain⟨rfl,rfl⟩:=h
 case shl=>exact⟨by rw[binOp_shl,shift_shl k yk a b hob.1 hob.2];simp,trivial⟩
 case shr=>exact⟨by rw[binOp_shr,shift_shr k yk a b hob.1 hob.2];simp,trivial⟩
 all_goals
  have hk':k=yk:=by rcases hk with h |h |h<;>first |exact h |cases h
  subst hk'
 case add=>exact⟨by simp[binOp_add,Op.intArith],trivial⟩
 case sub=>exact⟨by simp[binOp_sub,Op.intArith],trivial⟩
 case mul=>exact⟨by simp[binOp_mul,Op.intArith],trivial⟩
 case quo=>exact⟨by have h0:b≠0:=hob;rw[binOp_quo];simp[Op.intDiv,h0],trivial⟩
 case rem=>exact⟨by have h0:b≠0:=hob;rw[binOp_rem];simp[Op.intDiv,h0],trivial⟩
 case and=>exact⟨by rw[binOp_and,intBits_and];simp,trivial⟩
 case or=>exact⟨by rw[binOp_or,intBits_or];simp,trivial⟩
 case xor=>exact⟨by rw[binOp_xor,intBits_xor];simp,trivial⟩
 case andNot=>exact⟨by rw[binOp_andNot,intBits_andNot];simp,trivial⟩
 case eql=>exact⟨by rw[binOp_eql];simp,trivial⟩
 case neq=>exact⟨by rw[binOp_neq];simp,trivial⟩
 case lss=>exact⟨by rw[binOp_lss];simp,trivial⟩
 case leq=>exact⟨by rw[binOp_leq];simp,trivial⟩
 case gtr=>exact⟨by rw[binOp_gtr];simp,trivial⟩
 case geq=>exact⟨by rw[binOp_geq];simp,trivial⟩
theorem Qk {f:Field} {kd:Nat} {x y:AV} {b:Bool} {u v:Value} (hf:Ka P f kd=true) (h:Dp kd x y=some b) (hx:VR P β w I x u) (hy:VR P β w I y v) (d:Nat):
 (Op.equalIn (d + 1) f.type u v).run P w = .ok b w ∧ f.name ≠ "_" ∧ (isAgg f.type).run P w = .ok false w := by
 unfold Ka at hf;simp only[Bool.and_eq_true,bne_iff_ne,ne_eq]at hf;obtain⟨hname,hf⟩:=hf;unfold Dp at h;split at h
 ·split at h
  ·rename_i hk;subst hk;injection h with h;subst h;simp only[VR,TR]at hx hy;obtain⟨rfl,_⟩:=hx;obtain⟨rfl,_⟩:=hy;split at hf<;>first |(rename_i hu;exact⟨run_equalIn_int w d _ _ _ _ _ hu,hname,by simp[isAgg,run_underlying hu]⟩) |(simp at hf)
  ·cases h
 ·injection h with h;subst h;simp only[VR,TR]at hx hy;obtain⟨rfl,_⟩:=hx;obtain⟨rfl,_⟩:=hy;split at hf<;>first |(rename_i hu;exact⟨run_equalIn_bool w d _ _ _ hu,hname,by simp[isAgg,run_underlying hu]⟩) |(simp at hf)
 ·injection h with h;subst h;simp only[VR,TR]at hx hy;obtain⟨rfl,_⟩:=hx;obtain⟨rfl,_⟩:=hy;split at hf<;>first |(rename_i hu;exact⟨run_equalIn_string w d _ _ _ hu,hname,by simp[isAgg,run_underlying hu]⟩) |(simp at hf)
 ·cases h
theorem C9 (d:Nat) (us vs:List Value):∀ (fs:List Field) (ks:List Nat) (n:Nat) (xs ys:List AV) (b:Bool),cmpFields P n fs ks=true->mq ks xs ys=some b->
 VRl P β w I xs (us.drop n)->VRl P β w I ys (vs.drop n)->(Op.eqFields (d+1) us.toArray vs.toArray fs).run P w= .ok b w
 |[],[],n,xs,ys,b,_,h,_,_=>by
  cases xs<;>cases ys<;>simp[mq]at h;subst h;simp[Op.eqFields]
 |f::fs,k::ks,n,xs,ys,b,hc,h,hx,hy=>by
  cases xs<;>cases ys<;>simp only[mq,reduceCtorEq]at h;rename_i x xs y ys;simp only[cmpFields,Bool.and_eq_true,beq_iff_eq]at hc;obtain⟨⟨hoff,hcf⟩,hrest⟩:=hc;cases h1:Dp k x y with
  |none=>simp[h1]at h
  |some a=>
   cases h2:mq ks xs ys with
   |none=>simp[h1,h2]at h
   |some c=>
    simp only[h1,h2,bind_some,Option.some.injEq]at h;subst h;have lt_of:∀ (us:List Value) (xs:List AV) (x:AV),VRl P β w I (x::xs) (us.drop n)->∃ u,us[n]? =some u∧VR P β w I x u∧VRl P β w I xs (us.drop (n+1)):=by
     intro us xs x hx;have hlt:n < us.length:=by
      have:=VRl.length _ _ hx;simp at this;omega
     rw[List.drop_eq_getElem_cons hlt]at hx;simp only[VRl]at hx;exact⟨us[n],List.getElem?_eq_getElem hlt,hx.1,hx.2⟩
    obtain⟨u,hu,hxu,hxs⟩:=lt_of us xs x hx;obtain⟨v,hv,hyv,hys⟩:=lt_of vs ys y hy;obtain⟨e1,e2,e3⟩:=Qk hcf h1 hxu hyv d;have ih:=C9 d us vs fs ks (n+1) xs ys c hrest h2 hxs hys;have hp:∀ (zs:List Value) (z:Value),zs[n]? =some z->(Go.part f.type zs.toArray f.offset).run P w= .ok z w:=by
     intro zs z hz;simp[Go.part,e3,hoff,hz]
    simp only[Op.eqFields,e2,ne_eq,not_false_eq_true,if_true,Sem.run_bind,hp us u hu,hp vs v hv,Result.andThen_ok,e1,Sem.run_ite,Sem.run_pure,ih];cases a<;>simp
 |[],_::_,_,_,_,_,hc,_,_,_=>by simp[cmpFields]at hc
 |_::_,[],_,_,_,_,hc,_,_,_=>by simp[cmpFields]at hc
theorem U3 (hT:bI P T) {op:BinOp} {t:TypeId} {x y:AV} {xo yo:Operand} {u v:Value} {out:Out} (ha:Nw T op t x y=some out) (hob:out.ob) (hx:VR P β w I x u) (hy:VR P β w I y v):
 ∃ z,(do eqGuard op t xo yo u v;binOp op t u v:Sem Value).run P w= .ok z w∧VR P β w I out.v z∧out.upd=[]:=by
 unfold Nw at ha;split at ha
 ·rename_i k a yk b;simp only[VR,TR]at hx hy;obtain⟨rfl,_⟩:=hx;obtain⟨rfl,_⟩:=hy;split at ha
  ·rename_i hk;cases har:Kb op k a b with
   |none=>simp[har]at ha
   |some p=>
    obtain⟨z,ob⟩:=p;simp only[har,bind_some,Option.some.injEq]at ha;subst ha;obtain⟨h1,h2⟩:=Qj (P:=P) (w:=w) (t:=t) hk har hob;exact⟨z,by simp[eqGuard_at_int,h1],by simp only[VR,TR];exact⟨trivial,h2⟩,rfl⟩
  ·cases ha
 ·rename_i a b;simp only[VR,TR]at hx hy;obtain⟨rfl,_⟩:=hx;obtain⟨rfl,_⟩:=hy;cases op<;>simp only[pv,pvo,Option.some.injEq,reduceCtorEq]at ha<;>subst ha
  ·have hs:¬ ((a.size+b.size:Nat):Int)>i64.max:=by
    have:a.size+b.size<=maxLen:=hob;have h2:i64.max=9223372036854775807:=(by decide);unfold maxLen at this;omega
   exact⟨.string (a++b),by simp only[eqGuard_at_string,binOp,Op.stringOp,if_neg hs];simp,by simp only[VR,TR];exact⟨trivial,trivial⟩,rfl⟩
  ·exact⟨.bool (a.toList==b.toList),by simp[eqGuard_at_string,binOp,Op.stringOp],by simp only[VR,TR];exact⟨trivial,trivial⟩,rfl⟩
  ·exact⟨.bool (!(a.toList==b.toList)),by simp[eqGuard_at_string,binOp,Op.stringOp],by simp only[VR,TR];exact⟨trivial,trivial⟩,rfl⟩
  ·exact⟨.bool (Op.bytesLess a.toList b.toList),by simp[eqGuard_at_string,binOp,Op.stringOp],by simp only[VR,TR];exact⟨trivial,trivial⟩,rfl⟩
  ·exact⟨.bool (!(Op.bytesLess a.toList b.toList || a.toList==b.toList)),by simp[eqGuard_at_string,binOp,Op.stringOp],by simp only[VR,TR];exact⟨trivial,trivial⟩,rfl⟩
 ·rename_i a b;simp only[VR,TR]at hx hy;obtain⟨rfl,_⟩:=hx;obtain⟨rfl,_⟩:=hy;cases hti:T t with
  |none=>simp[hti]at ha
  |some ti=>
   have ht:=hT t ti hti;simp only[hti,bind_some]at ha;have hund:ti.k= .bool->P.underlying t=some .bool:=fun hk=>by
    obtain⟨info,d,z,h1,h2,h3,h4,h5,h6,h7,h8⟩:=ht.ex;rw[hk]at h8;rw[h2,h8]
   split at ha
   ·rename_i hk;simp only[pv,Option.some.injEq]at ha;subst ha;exact⟨.bool (a==b),by simp[eqGuard_at_bool,binOp,run_equal_bool w t a b (hund hk)],by simp only[VR,TR];exact⟨trivial,trivial⟩,rfl⟩
   ·rename_i hk;simp only[pv,Option.some.injEq]at ha;subst ha;exact⟨.bool (!(a==b)),by simp[eqGuard_at_bool,binOp,run_equal_bool w t a b (hund hk)],by simp only[VR,TR];exact⟨trivial,trivial⟩,rfl⟩
   ·cases ha
 ·rename_i xs ys;simp only[VR]at hx hy;obtain⟨us,rfl,hus⟩:=hx;obtain⟨vs,rfl,hvs⟩:=hy;cases hti:T t with
  |none=>simp[hti]at ha
  |some ti=>
   have ht:=hT t ti hti;simp only[hti,bind_some]at ha;split at ha
   ·cases ha
   ·rename_i hne;rcases ht.cmp hne with ⟨fa,h1,h2,h3,h4⟩ |⟨h9,_⟩
    rotate_left
    ·rw[h9,ZB]at ha;simp at ha
    cases hc:mq ti.cmp xs ys with
    |none=>simp[hc]at ha
    |some b=>
     simp only[hc,bind_some]at ha;have hfo:P.fieldsOf t=fa:=(by simp[Program.fieldsOf,h1]);have heq:(Op.equalIn 10000 t (.agg us) (.agg vs)).run P w= .ok b w:=by
      rw[run_equalIn_struct w 9999 t us vs (by rw[hfo];exact h1) h2,hfo];have:=C9 (P:=P) (w:=w) 9998 us.toList vs.toList fa.toList ti.cmp 0 xs ys b h4 hc (by simpa using hus) (by simpa using hvs);simpa using this
     have hgd:∀ op,(eqGuard op t xo yo (.agg us) (.agg vs)).run P w= .ok () w:=fun op=>run_eqGuard_agg w op t xo yo us vs h3;cases op<;>simp only[pv,Option.some.injEq,reduceCtorEq]at ha<;>subst ha
     ·exact⟨.bool b,by simp[hgd,run_eql_struct,heq],by simp only[VR,TR];exact⟨trivial,trivial⟩,rfl⟩
     ·exact⟨.bool (!b),by simp[hgd,run_neq_struct,heq],by simp only[VR,TR];exact⟨trivial,trivial⟩,rfl⟩
 ·cases ha
theorem X5 {op:UnOp} {x:AV} {v:Value} {out:Out} (ha:aUn op x=some out) (hx:VR P β w I x v):∃ z,(Op.unary op v).run P w= .ok z w∧VR P β w I out.v z∧out.upd=[]:=by
 unfold aUn at ha;split at ha
 ·simp only[pv,Option.some.injEq]at ha;subst ha;simp only[VR,TR]at hx;obtain⟨rfl,_⟩:=hx;exact⟨_,by simp[Op.unary];rfl,by simp only[VR,TR];exact⟨trivial,trivial⟩,rfl⟩
 ·simp only[pv,Option.some.injEq]at ha;subst ha;simp only[VR,TR]at hx;obtain⟨rfl,_⟩:=hx;exact⟨_,by simp only[Op.unary,Op.intArith];rfl,by simp only[VR,TR];exact⟨trivial,trivial⟩,rfl⟩
 ·cases ha
theorem Ep (mx:Bool) (k:IntKind):∀ (r:List AV) (vs:List Value) (a n:Int),xL mx k a r=some n->VRl P β w I r vs->
 (vs.foldlM (if mx then Builtin.max2 else Builtin.min2) (.int k a)).run P w= .ok (.int k n) w
 |[],[],a,n,h,_=>by simp only[xL,Option.some.injEq]at h;subst h;simp
 |x::r,v::vs,a,n,h,hv=>by
  simp only[VRl]at hv;have hx:∃ k' b,x= .t (.sc (.int k' b)):=by
   unfold xL at h;split at h
   ·cases ‹_::_=_›
   ·rename_i heq;injection heq with h1 h2;exact⟨_,_,h1⟩
   ·cases h
  obtain⟨k',b,rfl⟩:=hx;simp only[xL]at h;split at h
  ·rename_i hk;subst hk;simp only[VR,TR]at hv;obtain⟨⟨rfl,_⟩,hv⟩:=hv;have ih:=Ep mx k' r vs _ n h hv;cases mx
   ·simp only[Bool.false_eq_true,if_false]at ih ⊢;simp only[List.foldlM_cons,Builtin.min2,Sem.run_bind,Sem.run_pure,Result.andThen_ok];rw[show (if b < a then b else a)=min a b by rw[Int.min_def];split<;>split<;>omega];exact ih
   ·simp only[if_true]at ih ⊢;simp only[List.foldlM_cons,Builtin.max2,Sem.run_bind,Sem.run_pure,Result.andThen_ok];rw[show (if b>a then b else a)=max a b by rw[Int.max_def];split<;>split<;>omega];exact ih
  ·cases h
 |[],_::_,_,_,_,hv=>by simp[VRl]at hv
 |_::_,[],_,_,_,hv=>by simp[VRl]at hv
theorem OA {mx:Bool} {args:List AV} {vs:Array Value} {tys:Array TypeId} {ty:TypeId} {out:Out} (ha:aMm mx args=some out) (hx:VRl P β w I args vs.toList):
 ∃ z,((if mx then Builtin.max_ else Builtin.min_) tys ty vs).run P w= .ok z w∧VR P β w I out.v z∧out.upd=[]:=by
 unfold aMm at ha;split at ha
 ·rename_i k a r;cases hf:xL mx k a r with
  |none=>simp[hf]at ha
  |some n=>
   simp only[hf,bind_some,pv,Option.some.injEq]at ha;subst ha;cases hvs:vs.toList with
   |nil=>rw[hvs]at hx;simp[VRl]at hx
   |cons v vs'=>
    rw[hvs]at hx;simp only[VRl,VR,TR]at hx;obtain⟨⟨rfl,_⟩,hr⟩:=hx;have:=Ep (P:=P) mx k r vs' a n hf hr;refine⟨.int k n,?_,by simp only[VR,TR];exact⟨trivial,trivial⟩,rfl⟩;cases mx
    ·simpa[Builtin.min_,hvs]using this
    ·simpa[Builtin.max_,hvs]using this
 ·cases ha
end
section
variable {P:Program} {T:Tab} {w0:World} {O0:Was} {β:Nat->Option Blk} {I:Nat->Prop} {obj:Nat->Option aF} {w:World} {i:Nat}
theorem U4 (hT:bI P T) {t ty:TypeId} {x:AV} {orc:Orc} {v:Value} {out:Out} (ha:RS T t x orc=some out) (hob:out.ob) (hx:VR P β w I x v):
 ∃ z,(Builtin.len_ #[t] ty #[v]).run P w= .ok z w∧VR P β w I out.v z∧out.upd=[]:=by
 unfold RS at ha;cases hti:T t with
 |none=>simp[hti]at ha
 |some ti=>
  have ht:=hT t ti hti;simp only[hti,bind_some]at ha;have hsl:∀ e b n c,ti.k= .slice e->(Builtin.len_ #[t] ty #[.slice b n c]).run P w= .ok (goInt n) w:=fun e b n c hk=>by simp[Builtin.len_,run_underlying (dF ht hk)]
  split at ha
  ·rename_i e rows n hk;simp only[pvo,Option.some.injEq]at ha;subst ha;have hob:n=_:=hob;subst hob;simp only[VR,TR]at hx;rcases hx with ⟨rfl,_,_,rfl,_⟩ |⟨b,off,cap,sz,rfl,_⟩
   ·exact⟨_,hsl _ _ _ _ hk,by simp only[VR,TR,goInt];exact⟨by simp,trivial⟩,rfl⟩
   ·exact⟨_,hsl _ _ _ _ hk,by simp only[VR,TR,goInt];exact⟨trivial,trivial⟩,rfl⟩
  ·rename_i e k off len n hk;simp only[pvo,Option.some.injEq]at ha;subst ha;have hob:n=_:=hob;subst hob;simp only[VR]at hx;rcases hx with ⟨_,rfl,_,rfl⟩ |⟨b,sz,m,cap,a,_,rfl,_⟩
   ·exact⟨_,hsl _ _ _ _ hk,by simp only[VR,TR,goInt];exact⟨trivial,trivial⟩,rfl⟩
   ·exact⟨_,hsl _ _ _ _ hk,by simp only[VR,TR,goInt];exact⟨trivial,trivial⟩,rfl⟩
  ·rename_i e k off len hk _;simp only[pv,Option.some.injEq]at ha;subst ha;simp only[VR]at hx;rcases hx with ⟨_,rfl,_,rfl⟩ |⟨b,sz,m,cap,a,_,rfl,_⟩
   ·exact⟨_,hsl _ _ _ _ hk,by simp only[VR,TR,goInt];exact⟨trivial,trivial⟩,rfl⟩
   ·exact⟨_,hsl _ _ _ _ hk,by simp only[VR,TR,goInt];exact⟨trivial,trivial⟩,rfl⟩
  ·rename_i e k len hk;simp only[pv,Option.some.injEq]at ha;subst ha;simp only[VR]at hx;rcases hx with ⟨rfl,rfl⟩ |⟨_,b,sz,m,cap,a,_,rfl,_⟩
   ·exact⟨_,hsl _ _ _ _ hk,by simp only[VR,TR,goInt];exact⟨trivial,trivial⟩,rfl⟩
   ·exact⟨_,hsl _ _ _ _ hk,by simp only[VR,TR,goInt];exact⟨trivial,trivial⟩,rfl⟩
  ·rename_i e hk;simp only[pv,Option.some.injEq]at ha;subst ha;simp only[VR]at hx;subst hx;exact⟨_,hsl _ _ _ _ hk,by simp only[VR,TR,goInt];exact⟨by simp,trivial⟩,rfl⟩
  ·rename_i s hk;simp only[pv,Option.some.injEq]at ha;subst ha;simp only[VR,TR]at hx;obtain⟨rfl,_⟩:=hx;have hund:P.underlying t=some .string:=by
    obtain⟨info,d,z,h1,h2,h3,h4,h5,h6,h7,h8⟩:=ht.ex;rw[hk]at h8;rw[h2,h8]
   exact⟨_,by simp[Builtin.len_,run_underlying hund];rfl,by simp only[VR,TR,goInt];exact⟨trivial,trivial⟩,rfl⟩
  ·cases ha
theorem OC (vs:List Value) (off:Nat):∀ (ps:List Value) (n:Nat) (cs:Array Value),off+n+ps.length<=cs.size->
 (ps.zipIdx n).foldl (fun cs (c,j)=>cs.setIfInBounds (off+j) c) cs=((cs.toList.take (off+n))++ps++cs.toList.drop (off+n+ps.length)).toArray
 |[],n,cs,_=>by simp
 |p::ps,n,cs,h=>by
  simp only[length_cons]at h;rw[List.zipIdx_cons,List.foldl_cons,OC vs off ps (n+1) _ (by simp;omega)];congr 1;rw[Array.toList_setIfInBounds];have h1:off+n < cs.toList.length:=by simp;omega
  rw[show off+(n+1)=off+n+1 by omega,List.take_succ_eq_append_getElem (by simpa using h1)];rw[List.take_set,List.set_eq_of_length_le (by simp;omega)];simp only[List.getElem_set_self,append_assoc,length_cons,cons_append,nil_append];congr 3;rw[List.drop_set_of_lt (by omega)];congr 1;omega
theorem abd {cells cs:List AV} {us vs:List Value} {off:Nat} (h1:VRl P β w I cells us) (h2:VRl P β w I cs vs):VRl P β w I (put' cells off cs) (us.take off++vs++us.drop (off+vs.length)):=by
 unfold put';rw[VRl.length _ _ h2];exact VRl.append _ _ _ _ (VRl.append _ _ _ _ (VRl.take _ _ _ h1) h2) (VRl.drop _ _ _ h1)
theorem uD {place place':Nat->Option (Nat×Nat)} (hpl:∀ j p,place j=some p->place' j=some p):∀ (parts:List (Nat×AV)) (vs:List (Nat×Value)) (cells:List AV) (us:Array Value) (out:List AV),
 zo place cells parts=some out->VRl P β w I cells us.toList->parts.map (·.1)=vs.map (·.1)->VRl P β w I (parts.map (·.2)) (vs.map (·.2))->
 ∃ zs,Instr.fill place' us vs=some zs∧VRl P β w I out zs.toList
 |[],[],cells,us,out,h,hc,_,_=>by simp only[zo,Option.some.injEq]at h;subst h;exact⟨us,rfl,hc⟩
 |(j,x)::rest,(j',v)::vs,cells,us,out,h,hc,hk,hv=>by
  simp only[map_cons,List.cons.injEq]at hk;obtain⟨rfl,hk⟩:=hk;simp only[map_cons,VRl]at hv;simp only[zo]at h;cases hp:place j with
  |none=>simp[hp]at h
  |some p=>
   obtain⟨off,size⟩:=p;simp only[hp,bind_some]at h;cases hcs:cellsOf x with
   |none=>simp[hcs]at h
   |some cs=>
    simp only[hcs,bind_some]at h;split at h
    ·rename_i hl;obtain⟨g1,g2⟩:=kR hcs hv.1;have hlen:=VRl.length _ _ g1;have hlc:=VRl.length _ _ hc;simp only[Array.length_toList]at hlen hlc;have hnew:=abd (off:=off) hc g1;have:=uD hpl rest vs _ (us.toList.take off++v.cells.toList++us.toList.drop (off+v.cells.toList.length)).toArray out h (by simpa using hnew) hk hv.2;obtain⟨zs,hz,hz2⟩:=this;refine⟨zs,?_,hz2⟩;simp only[Instr.fill,hpl j _ hp];have hsz:v.cells.size=size:=(by omega);have hno:¬ (v.cells.size≠size∨off+v.cells.size>us.size):=(by omega);rw[if_neg (by simp only[Bool.or_eq_true,decide_eq_true_eq];exact hno)];have hfold:=OC [] off v.cells.toList 0 us (by simp;omega);simp only[Nat.add_zero]at hfold;rw[<- hz,<- hfold];congr 1;rw[<- Array.foldl_toList,Array.toList_zipIdx]
    ·cases h
 |[],_::_,_,_,_,_,_,hk,_=>by simp at hk
 |_::_,[],_,_,_,_,_,hk,_=>by simp at hk
theorem zq (hT:bI P T):∀ (fs:List Field),(∀ f∈fs,(T f.type).isSome=true)->
 ∃ ps:List (Nat×Nat),(fs.mapM (fun f=>do pure (f.offset,<- sizeOf f.type):Field->Sem (Nat×Nat))).run P w= .ok ps w∧ps.map some=fs.map fun f=>(T f.type).bind fun ui=>some (f.offset,ui.size)
 |[],_=>⟨[],by simp,rfl⟩
 |f::fs,h=>by
  obtain⟨ui,hui⟩:=Option.isSome_iff_exists.1 (h f (by simp));obtain⟨ps,h1,h2⟩:=zq hT fs (fun g hg=>h g (by simp[hg]));refine⟨(f.offset,ui.size)::ps,?_,by simp[hui,h2]⟩;simp only[List.mapM_cons,Sem.run_bind,(hT _ _ hui).size (w:=w),Result.andThen_ok,Sem.run_pure,h1]
theorem Ql (hT:bI P T) {t:TypeId} {parts:List (Nat×AV)} {vs:Array (Nat×Value)} {out:Out} (ha:Kg T t parts=some out)
 (hk:parts.map (·.1)=vs.toList.map (·.1)) (hv:VRl P β w I (parts.map (·.2)) (vs.toList.map (·.2))):∃ z,(Instr.build t vs).run P w= .ok z w∧VR P β w I out.v z∧out.upd=[]:=by
 unfold Kg at ha;cases hti:T t with
 |none=>simp[hti]at ha
 |some ti=>
  have ht:=hT t ti hti;simp only[hti,bind_some]at ha;obtain⟨z,hz,hz2⟩:=ht.zeroV (w:=w);split at ha
  ·rename_i fs hkd;split at ha
   ·rename_i hall;generalize hpl:(fun (j:Nat)=>(fs[j]?).bind fun (p:Nat×TypeId)=>(T p.2).bind fun ui=>some (p.1,ui.size))=place at ha;cases hf:zo place (ti.zero.map cv) parts with
    |none=>simp[hf]at ha
    |some cells=>
     simp only[hf,bind_some,pv,Option.some.injEq]at ha;subst ha;obtain⟨info,d,z',h1,h2,h3,h4,h5,h6,h7,h8⟩:=ht.ex;rw[hkd]at h8;obtain⟨fa,rfl,hfa⟩:=h8;have hall':∀ f∈fa.toList,(T f.type).isSome=true:=fun f hf=>by
      have:=all_eq_true.1 hall (f.offset,f.type) (by rw[<- hfa];exact List.mem_map.2 ⟨f,hf,rfl⟩);simpa using this
     obtain⟨ps,hp1,hp2⟩:=zq (w:=w) hT fa.toList hall';have hpl':∀ j p,place j=some p->ps[j]? =some p:=by
      intro j p hj;rw[<- hpl]at hj;simp only at hj;have e1:(ps.map some)[j]? =some (some p):=by
       rw[hp2,List.getElem?_map];rw[<- hfa]at hj;simp only[List.getElem?_map]at hj;cases hfj:fa.toList[j]? with
       |none=>rw[hfj]at hj;simp at hj
       |some f=>rw[hfj]at hj;simpa using hj
      simpa using e1
     obtain⟨zs,hz3,hz4⟩:=uD (place':=fun j=>ps.toArray[j]?) (fun j p h=>by simpa using hpl' j p h) parts vs.toList _ z.cells cells hf (by rw[hz2];exact VRl.cv _) hk hv;refine⟨.agg zs,?_,by simp only[VR];exact⟨zs,rfl,hz4⟩,rfl⟩;have hm:(fa.mapM (fun f=>do pure (f.offset,<- sizeOf f.type):Field->Sem (Nat×Nat))).run P w= .ok ps.toArray w:=(by rw[Array.mapM_eq_mapM_toList,Sem.run_map,hp1];rfl);simp only[Instr.build,Sem.run_bind,hz,Result.andThen_ok,run_underlying h2,hm,hz3,Sem.run_pure]
   ·cases ha
  ·rename_i n e hkd;cases hei:T e with
   |none=>simp[hei]at ha
   |some ei=>
    have he:=hT e ei hei;simp only[hei,bind_some]at ha;cases hf:zo (fun j=>some (j*ei.size,ei.size)) (ti.zero.map cv) parts with
    |none=>simp[hf]at ha
    |some cells=>
     simp only[hf,bind_some,pv,Option.some.injEq]at ha;subst ha;obtain⟨zs,hz3,hz4⟩:=uD (place':=fun j=>some (j*ei.size,ei.size)) (fun j p h=>h) parts vs.toList _ z.cells cells hf (by rw[hz2];exact VRl.cv _) hk hv;refine⟨.agg zs,?_,by simp only[VR];exact⟨zs,rfl,hz4⟩,rfl⟩;simp only[Instr.build,Sem.run_bind,hz,Result.andThen_ok,run_underlying (wz ht hkd),he.size (w:=w),hz3,Sem.run_pure]
  ·cases ha
end
section
variable {P:Program} {T:Tab} {w0:World} {O0:Was} {β:Nat->Option Blk} {I:Nat->Prop} {obj:Nat->Option aF} {w:World} {i:Nat}
theorem Mem.rename1 {i k:Nat} {o o1:aF} {B C:Blk} (h:Mem P w0 O0 β I obj w) (hn:β i=none) (hk:obj k=some o) (hβ:β k=some B) (hC:C.num=B.num) (hO:OR P β w I o1 C):
 Step β I w i (ins β i C) I w∧Mem P w0 O0 (ins β i C) I (aL obj [(i,some o1),(k,none)]) w:=by
 have hS:Step β I w i (ins β i C) I w:=⟨fun j hj=>by simp[ins,ownN.ne hj],iT hn,fun _ _=>rfl,fun _ h=>h⟩;have look:∀ j o',aL obj [(i,some o1),(k,none)] j=some o'->(j=i∧o'=o1)∨(j≠i∧j≠k∧obj j=some o'):=by
  intro j o' hj;simp only[aL]at hj;split at hj
  ·injection hj with hj;exact .inl ⟨‹_›,hj.symm⟩
  ·split at hj
   ·cases hj
   ·exact .inr ⟨‹_›,‹_›,hj⟩
 refine⟨hS,?_⟩;constructor
 ·intro j o' hj;rcases look j o' hj with ⟨rfl,rfl⟩ |⟨h1,h2,h3⟩
  ·exact⟨C,by simp[ins],OR.mono hS.ext hS.same hS.inc (fun _ _=>rfl) hO⟩
  ·obtain⟨B',hB',hO⟩:=h.objs j o' h3;exact⟨B',iT hn _ _ hB',OR.mono hS.ext hS.same hS.inc (fun _ _=>rfl) hO⟩
 ·intro j j' o1 o2 B1 B2 b h1 h2 h3 h4 h5 h6;rcases look j o1 h1 with ⟨rfl,rfl⟩ |⟨a1,a2,a3⟩<;>rcases look j' o2 h2 with ⟨rfl,rfl⟩ |⟨c1,c2,c3⟩
  ·rfl
  ·simp only[ins,if_true,Option.some.injEq]at h3;simp only[ins,c1,if_false]at h4;subst h3;exact absurd (h.injB k j' _ _ B B2 b hk c3 hβ h4 (hC ▸ h5) h6) (fun e=>c2 e.symm)
  ·simp only[ins,if_true,Option.some.injEq]at h4;simp only[ins,a1,if_false]at h3;subst h4;exact absurd (h.injB j k _ _ B1 B b a3 hk h3 hβ h5 (hC ▸ h6)) (fun e=>a2 e)
  ·simp only[ins,a1,c1,if_false]at h3 h4;exact h.injB j j' o1 o2 B1 B2 b a3 c3 h3 h4 h5 h6
 ·intro j o' B1 b h1 h2 h3;rcases look j o' h1 with ⟨rfl,rfl⟩ |⟨a1,a2,a3⟩
  ·simp only[ins,if_true,Option.some.injEq]at h2;subst h2;exact h.ownB k _ B b hk hβ (hC ▸ h3)
  ·simp only[ins,a1,if_false]at h2;exact h.ownB j o' B1 b a3 h2 h3
 ·exact h.lt
 ·exact h.up
 ·exact h.keep
 ·exact h.le
 ·exact h.os
 ·exact h.tape
 ·exact h.output
 ·intro j C hj;exact iT hn _ _ (h.anch j C hj)
 ·exact h.vars
theorem Da:∀ (rows:List (List AV)) (c:Array Value) (off sz:Nat) (l:List Value),(∀ r∈rows,r.length=sz∧r.all jK=true)->VRl P β w I rows.flatten l->(∀ j u,l[j]? =some u->c[off+j]? =some u)->ORows P β w I rows c off sz
 |[],_,_,_,_,_,_,_=>by simp[ORows]
 |r::rs,c,off,sz,l,hr,hl,hc=>by
  obtain⟨h1,h2⟩:=hr r (by simp);simp only[flatten_cons]at hl;have ht:=VRl.take sz _ _ hl;have hd:=VRl.drop sz _ _ hl;rw[List.take_append_of_le_length (by omega),List.take_of_length_le (by omega)]at ht;rw[List.drop_append_of_le_length (by omega),List.drop_of_length_le (by omega),nil_append]at hd;simp only[ORows];refine⟨h1,ORow.of_list r _ c off ht (fun u hu=>?_) (fun j u hj=>?_),Da rs c (off+sz) sz _ (fun r' hr'=>hr r' (by simp[hr'])) hd (fun j u hj=>?_)⟩
  ·obtain⟨j,hj⟩:=List.getElem?_of_mem hu;have hlen:=VRl.length _ _ ht;have hjl:j < r.length:=(by have:=(List.getElem?_eq_some_iff.1 hj).1;omega);obtain⟨u',hu',hv⟩:=VRl.get _ _ j _ ht (List.getElem?_eq_getElem hjl);rw[hj]at hu';injection hu' with hu';subst hu';exact VR.one (all_eq_true.1 h2 _ (List.getElem_mem hjl)) hv
  ·rw[List.getElem?_take]at hj;split at hj
   ·exact hc j u hj
   ·cases hj
  ·rw[List.getElem?_drop]at hj;rw[show off+sz+j=off+(sz+j)by omega];exact hc _ u hj
theorem U5 {x:AV} {cs:List AV} (h:cellsOf x=some cs):cs.all jK=true:=by
 cases x<;>simp only[cellsOf,Option.some.injEq,reduceCtorEq]at h
 case agg=>split at h<;>first |(injection h with h;subst h;assumption) |cases h
 all_goals subst h;simp[jK]
theorem Km (size:Nat):∀ (parts:List (Nat×AV)) (rows out:List (List AV)),En size rows parts=some out->(∀ r∈rows,r.length=size∧r.all jK=true)->
 zo (fun j=>some (j*size,size)) rows.flatten parts=some out.flatten∧(∀ r∈out,r.length=size∧r.all jK=true)∧out.length=rows.length
 |[],rows,out,h,hr=>by simp only[En,Option.some.injEq]at h;subst h;exact⟨rfl,hr,rfl⟩
 |(j,x)::rest,rows,out,h,hr=>by
  simp only[En]at h;cases hcs:cellsOf x with
  |none=>simp[hcs]at h
  |some cs=>
   simp only[hcs,bind_some]at h;split at h
   ·rename_i hl;obtain⟨h1,h2,h3⟩:=Km size rest (rows.set j cs) out h (fun r hr'=>by
     rcases List.mem_or_eq_of_mem_set hr' with h4 |h4
     ·exact hr r h4
     ·rw[h4];exact⟨hl.1,U5 hcs⟩)
    refine⟨?_,h2,by simpa using h3⟩;have hflat:∀ (n:Nat) (rows:List (List AV)),(∀ r∈rows,r.length=size)->n < rows.length->(rows.set n cs).flatten=put' rows.flatten (n*size) cs∧n*size+cs.length<=rows.flatten.length:=by
     intro n
     induction n with
     |zero=>
      intro rows hr hn;cases rows with
      |nil=>simp at hn
      |cons r rs=>
       have:=hr r (by simp);simp only[List.set_cons_zero,flatten_cons,put',Nat.zero_mul,List.take_zero,nil_append,Nat.zero_add,length_append];refine⟨?_,by omega⟩;rw[hl.1,List.drop_append_of_le_length (by omega),List.drop_of_length_le (by omega),nil_append]
     |succ n ih=>
      intro rows hr hn;cases rows with
      |nil=>simp at hn
      |cons r rs=>
       have hrl:=hr r (by simp);obtain⟨g1,g2⟩:=ih rs (fun r' h'=>hr r' (by simp[h'])) (by simpa using hn);have e1:(n+1)*size=r.length+n*size:=(by rw[Nat.add_mul];omega);simp only[List.set_cons_succ,flatten_cons,g1,put',e1,length_append];refine⟨?_,by omega⟩;rw[List.take_length_add_append,show r.length+n*size+cs.length=r.length+(n*size+cs.length)by omega,List.drop_length_add_append];simp[append_assoc]
    obtain⟨g1,g2⟩:=hflat j rows (fun r h'=>(hr r h').1) hl.2;simp only[zo,bind_some,hcs];rw[if_pos ⟨hl.1,g2⟩,<- g1];exact h1
   ·cases h
theorem Er (hT:bI P T) (h:Mem P w0 O0 β I obj w) (hn:β (nid i)=none) {t:TypeId} {len:Nat} {parts:List (Nat×AV)} {vs:Array (Nat×Value)} {out:Out} {kp:Bool} (ha:oN T i t len parts kp=some out)
 (hk:parts.map (·.1)=vs.toList.map (·.1)) (hv:VRl P β w I (parts.map (·.2)) (vs.toList.map (·.2))):
 ∃ u w' β',(Instr.buildSlice t len vs).run P w= .ok u w'∧Step β I w (nid i) β' I w'∧Mem P w0 O0 β' I (aL obj out.upd) w'∧VR P β' w' I out.v u:=by
 unfold oN at ha;cases hti:T t with
 |none=>simp[hti]at ha
 |some ti=>
  have ht:=hT t ti hti;simp only[hti,bind_some]at ha;split at ha
  ·rename_i e hkd;cases hei:T e with
   |none=>simp[hei]at ha
   |some ei=>
    have he:=hT e ei hei;simp only[hei,bind_some]at ha;split at ha
    ·cases ha
    ·rename_i hno;simp only[not_or]at hno;cases hf:En ei.size (List.replicate len (ei.zero.map cv)) parts with
     |none=>simp[hf]at ha
     |some rows=>
      simp only[hf,bind_some,Option.some.injEq]at ha;subst ha;obtain⟨z,hz,hz2⟩:=he.zeroV (w:=w);have hzl:ei.zero.length=ei.size:=he.len;have hok:∀ r∈List.replicate len (ei.zero.map cv),r.length=ei.size∧r.all jK=true:=by
       intro r hr;obtain⟨_,rfl⟩:=List.mem_replicate.1 hr;refine⟨by simpa using hzl,?_⟩;rw[List.all_map,all_eq_true];intro v hvz;have h1:=all_eq_true.1 he.one v hvz;simp only[Function.comp,cv];split
       ·rfl
       ·rw[if_pos h1];rfl
      obtain⟨h1,h2,h3⟩:=Km ei.size parts _ rows hf hok;have hzs:z.cells.size=ei.size:=(by rw[<- Array.length_toList,hz2];exact hzl);have hinit:((Array.range (len*ei.size)).map (fun j=>z.cells[j%z.cells.size]!)).toList=(List.replicate len ei.zero).flatten:=by
       apply List.ext_getElem?;intro j;have hlen:∀ n,((List.replicate n ei.zero).flatten).length=n*ei.size:=fun n=>(by simp[hzl]);have hget:∀ n j,j < n*ei.size->((List.replicate n ei.zero).flatten)[j]? =ei.zero[j%ei.size]? :=by
        intro n
        induction n with
        |zero=>intro j hj;simp at hj
        |succ n ih=>
         intro j hj;rw[List.replicate_succ,flatten_cons];by_cases hjs:j < ei.size
         ·rw[List.getElem?_append_left (by omega),Nat.mod_eq_of_lt hjs]
         ·rw[List.getElem?_append_right (by omega),hzl,ih _ (by rw[Nat.add_mul]at hj;omega)];rw[<- Nat.mod_eq_sub_mod (by omega)]
       by_cases hj:j < len*ei.size
       ·rw[hget len j hj,Array.getElem?_toList,Array.getElem?_map];have hm:j%ei.size < ei.size:=Nat.mod_lt _ (by omega);rw[show (Array.range (len*ei.size))[j]? =some j by simp[hj]];simp only[Option.map_some];rw[hzs,<- hz2,Array.getElem?_toList];simp[show j%ei.size < z.cells.size by omega]
       ·rw[List.getElem?_eq_none (by simp;omega),List.getElem?_eq_none (by rw[hlen];omega)]
      generalize hin:(Array.range (len*ei.size)).map (fun j=>z.cells[j%z.cells.size]!)=cells0 at hinit;obtain⟨zs,hz3,hz4⟩:=uD (place':=fun j=>some (j*ei.size,ei.size)) (fun j p h=>h) parts vs.toList _ cells0 rows.flatten h1 (by
       rw[hinit];have:(List.replicate len (ei.zero.map cv)).flatten=((List.replicate len ei.zero).flatten).map cv:=by
        induction len with
        |zero=>rfl
        |succ n ih=>simp[List.replicate_succ]
       rw[this];exact VRl.cv _) hk hv
      have hrl:rows.length=len:=(by rw[h3];simp);obtain⟨hS,hM⟩:=Mem.alloc (o:=⟨ei.size,rows⟩) (c:=zs) (e:=e) h hn (Da rows zs 0 ei.size zs.toList h2 hz4 (fun j u hj=>by simpa using hj));refine⟨.slice (some ⟨w.heap.size,0,none⟩) len len,_,_,?_,hS,by cases kp<;>first |exact hM.wkAt |exact hM,?_⟩
      ·simp only[Instr.buildSlice,Sem.run_bind,run_underlying (dF ht hkd),Result.andThen_ok,he.size (w:=w)];rw[if_neg (by omega)];by_cases hl0:len*ei.size=0
       ·have hc0:cells0=#[]:=(by rw[<- hin,hl0];simp);have e0:(Array.range (len*ei.size)).map (fun j=>(#[]:Array Value)[j%(#[]:Array Value).size]!)=cells0:=(by rw[hc0,hl0];simp);simp only[hl0,if_true,Sem.run_pure,Result.andThen_ok,Sem.run_bind];rw[hl0]at e0;rw[e0,hz3];simp only[Sem.run_bind,newRow,run_newObj,Result.andThen_ok,Sem.run_pure];rfl
       ·simp only[hl0,if_false,Sem.run_bind,hz,Result.andThen_ok,Sem.run_pure];rw[hin,hz3];simp only[Sem.run_bind,newRow,run_newObj,Result.andThen_ok,Sem.run_pure];rfl
      ·simp only[VR];refine .inr ⟨w.heap.size,ei.size,ex0 zs.size,len,0,by simp[ins],rfl,Nat.le_refl _,?_,by simp⟩;have:=VRl.length _ _ hz4;simp only[Array.length_toList]at this;rw[Xf,Xg,this,Nat.zero_add,Nat.zero_add,<- hrl];have hfl:∀ (l:List (List AV)),(∀ r∈l,r.length=ei.size)->l.flatten.length=l.length*ei.size:=by
        intro l
        induction l with
        |nil=>simp
        |cons r rs ih=>intro h;simp only[flatten_cons,length_append,length_cons,ih (fun r' h'=>h r' (by simp[h'])),h r (by simp)];rw[Nat.add_mul];omega
       rw[hfl rows (fun r hr=>(h2 r hr).1)];exact Nat.le_refl _
  ·cases ha
end
section
variable {P:Program} {T:Tab} {w0:World} {O0:Was} {β:Nat->Option Blk} {I:Nat->Prop} {obj:Nat->Option aF} {w:World} {i:Nat}
theorem rG {d n:Int} {x:Option AV} {v:Option Value} (h:bnd d x=some n) (hx:∀ y,x=some y->∃ u,v=some u∧VR P β w I y u) (h0:x=none->v=none):(v=none∧n=d)∨∃ k,v=some (.int k n):=by
 cases x with
 |none=>simp only[bnd,Option.some.injEq]at h;exact .inl ⟨h0 rfl,h.symm⟩
 |some y=>
  obtain⟨u,rfl,hu⟩:=hx y rfl;unfold bnd at h;split at h
  ·cases ‹some _=none›
  ·rename_i k m heq;injection heq with heq;subst heq;injection h with h;subst h;simp only[VR,TR]at hu;exact .inr ⟨k,by rw[hu.1]⟩
  ·cases h
theorem zu {lov hiv:Option Value} {l hh:Int} {len cap:Nat} (h1:(lov=none∧l=0)∨∃ k,lov=some (.int k l)) (h2:(hiv=none∧hh=(len:Int))∨∃ k,hiv=some (.int k hh)) (g0:0<=l) (g1:l<=hh) (g2:hh<=(cap:Int)):
 (Instr.sliceBounds true len cap lov hiv none).run P w= .ok (l.toNat,hh.toNat,cap) w:=by
 have hb:∀ (k:IntKind) (n:Int) (y:Nat) code,0<=n->n<=(y:Int)->(Instr.sliceBound (.int k n) y code).run P w= .ok n.toNat w:=fun k n y code a b=>by simp[Instr.sliceBound,asIntOf,a,b]
 rcases h1 with ⟨rfl,rfl⟩ |⟨k,rfl⟩<;>rcases h2 with ⟨rfl,rfl⟩ |⟨k',rfl⟩
 ·simp[Instr.sliceBounds]
 ·simp[Instr.sliceBounds,hb k' hh cap _ (by omega) g2]
 ·simp[Instr.sliceBounds,hb k l len _ g0 g1]
 ·have h3:=fun code=>hb k l hh.toNat code g0 (by omega);simp[Instr.sliceBounds,hb k' hh cap _ (by omega) g2,h3]
theorem Qm (hT:bI P T) (h:Mem P w0 O0 β I obj w) {t:TypeId} {x:AV} {lo hi:Option AV} {orc:Orc} {get:Nat->Option aF} {out:Out} {v:Value} {lov hiv:Option Value} (hg:∀ k o,get k=some o->obj k=some o)
 (ha:Ki T t x lo hi orc get=some out) (hob:out.ob) (hx:VR P β w I x v) (hlo:∀ x,lo=some x->∃ v,lov=some v∧VR P β w I x v) (hlo0:lo=none->lov=none) (hhi:∀ x,hi=some x->∃ v,hiv=some v∧VR P β w I x v) (hhi0:hi=none->hiv=none):
 ∃ u,(Instr.sliceAt t v lov hiv none).run P w= .ok u w∧VR P β w I out.v u∧out.upd=[]:=by
 unfold Ki at ha;cases hti:T t with
 |none=>simp[hti]at ha
 |some ti=>
  have ht:=hT t ti hti;simp only[hti,bind_some]at ha;split at ha
  ·rename_i e hkd;cases hei:T e with
   |none=>simp[hei]at ha
   |some ei=>
    have he:=hT e ei hei;simp only[hei,bind_some]at ha;have hund:=dF ht hkd
    have hrun:∀ (a:Option Addr) (len cap:Nat) (l hh:Int),bnd 0 lo=some l->bnd len hi=some hh->0<=l->l<=hh->hh<=(cap:Int)->
     (Instr.sliceAt t (.slice a len cap) lov hiv none).run P w= .ok (.slice (if cap=l.toNat then a else a.map (·.add (l.toNat*ei.size))) (hh.toNat - l.toNat) (cap - l.toNat)) w:=by
     intro a len cap l hh b1 b2 b3 b4 b5;have:=zu (P:=P) (w:=w) (len:=len) (cap:=cap) (rG b1 hlo hlo0) (rG b2 hhi hhi0) b3 b4 b5;simp only[Instr.sliceAt,Instr.slice,Sem.run_bind,run_underlying hund,Result.andThen_ok,this,he.size (w:=w),Sem.run_pure]
    cases x<;>try simp only[reduceCtorEq]at ha
    case own k off len=>
     cases hk:get k with
     |none=>simp[hk]at ha
     |some o=>
      simp only[hk,bind_some]at ha;split at ha
      ·rename_i hsz;cases hl:bnd 0 lo with
       |none=>simp[hl]at ha
       |some l=>
        cases hh:bnd len hi with
        |none=>simp[hl,hh]at ha
        |some r=>
         simp only[hl,hh,bind_some,pvo,Option.some.injEq]at ha;subst ha;obtain⟨b1,b2,b3⟩:=hob;simp only[VR]at hx ⊢;rcases hx with ⟨h1,rfl,h2,h3⟩ |⟨b,sz,m,cap,a,h1,rfl,h2,h3,h4⟩
         ·subst h3;subst h2;have hr:r=0:=(by omega);have hl0:l=0:=(by omega);subst hr;subst hl0;refine⟨_,hrun _ _ _ _ _ hl hh b1 b2 (by omega),.inl ⟨h1,by simp,by simp,by simp⟩,trivial⟩
         ·refine⟨_,hrun _ _ _ _ _ hl hh b1 b2 (by omega),.inr ⟨b,sz,m,cap - l.toNat,if cap=l.toNat then a else a+l.toNat*ei.size,h1,?_,by omega,?_,?_⟩,trivial⟩
          ·split
           ·rfl
           ·simp[addr_add]
          ·have:off+l.toNat+(cap - l.toNat)=off+cap:=(by omega);rw[this];exact h3
          ·intro hc;have hcl:¬ cap=l.toNat:=(by omega);rw[if_neg hcl,h4 (by omega)];obtain⟨B,hB,hO⟩:=h.objs k o (hg k o hk);rw[h1]at hB;injection hB with hB;subst hB;have hs:sz=o.sz:=hO.1;rw[hs,hsz,Nat.add_mul,Nat.add_assoc]
      ·cases ha
    case t x=>
     cases x<;>simp only[reduceCtorEq]at ha
     case sl rows=>
      cases orc<;>simp only[reduceCtorEq]at ha
      case tsub rs=>
       cases hl:bnd 0 lo with
       |none=>simp[hl]at ha
       |some l=>
        cases hh:bnd rows.length hi with
        |none=>simp[hl,hh]at ha
        |some r=>
         simp only[hl,hh,bind_some,pvo,Option.some.injEq]at ha;subst ha;obtain⟨b1,b2,b3,hrs,hall⟩:=hob;simp only[VR,TR]at hx ⊢;have hlen:rs.length=r.toNat - l.toNat:=(by rw[hrs];simp only[length_take,length_drop];omega);rcases hx with ⟨rfl,a,cap,rfl,hac⟩ |⟨b,off,cap,sz,rfl,h1,h2,h3⟩
         ·simp only[List.length_nil]at b3;have hr:r=0:=(by omega);have hl0:l=0:=(by omega);subst hr;subst hl0;refine⟨_,hrun _ _ _ _ _ hl hh b1 b2 (by omega),.inl ⟨by rw[hrs];simp,a.map (·.add 0),cap,?_,fun h0=>hac (by simpa using h0)⟩,trivial⟩;by_cases hc:cap=0
          ·subst hc;cases a<;>simp[Addr.add]
          ·simp[hc]
         ·refine⟨_,hrun _ _ _ _ _ hl hh b1 b2 (by omega),.inr ⟨b,if cap=l.toNat then off else off+l.toNat*ei.size,cap - l.toNat,sz,?_,by omega,h2,?_⟩,trivial⟩
          ·rw[hlen];split
           ·rfl
           ·simp[addr_add]
          ·by_cases hc:cap=l.toNat
           ·have:rs=[]:=eq_nil_of_length_eq_zero (by omega);rw[this];simp[TRows]
           ·rw[if_neg hc,hrs];have hd:∀ (n:Nat) (rows:List (List Tree)) (off:Nat),TRows w I rows b off sz->TRows w I (rows.drop n) b (off+n*sz) sz:=by
             intro n
             induction n with
             |zero=>intro rows off h;simpa using h
             |succ n ih=>
              intro rows off h;cases rows with
              |nil=>simp[TRows]
              |cons r rs=>
               simp only[TRows]at h;rw[List.drop_succ_cons,show off+(n+1)*sz=off+sz+n*sz by rw[Nat.add_mul];omega];exact ih rs _ h.2.2
            have htk:∀ (n:Nat) (rows:List (List Tree)) (off:Nat),TRows w I rows b off sz->TRows w I (rows.take n) b off sz:=by
             intro n
             induction n with
             |zero=>intro rows off h;simp[TRows]
             |succ n ih=>
              intro rows off h;cases rows with
              |nil=>simp[TRows]
              |cons r rs=>
               simp only[TRows]at h;simp only[List.take_succ_cons,TRows];exact⟨h.1,h.2.1,ih rs _ h.2.2⟩
            by_cases hne:rows=[]
            ·subst hne;simp[TRows]
            ·obtain⟨r0,rest,rfl⟩:=List.exists_cons_of_ne_nil hne;have hsz:ei.size=sz:=by
              have e1:=hall r0 (by simp);simp only[TRows]at h3;omega
             rw[hsz];exact htk _ _ _ (hd _ _ _ h3)
  ·cases ha
end
section
variable {P:Program} {T:Tab} {w0:World} {O0:Was} {β:Nat->Option Blk} {I:Nat->Prop} {obj:Nat->Option aF} {w:World} {i:Nat}
theorem Mem.addNil {i:Nat} {o:aF} (h:Mem P w0 O0 β I obj w) (hn:β i=none) (ho:o.rows=[]):
 Step β I w i (ins β i .none) I w∧Mem P w0 O0 (ins β i .none) I (aL obj [(i,some o)]) w:=by
 have hS:Step β I w i (ins β i .none) I w:=⟨fun j hj=>by simp[ins,ownN.ne hj],iT hn,fun _ _=>rfl,fun _ h=>h⟩;refine⟨hS,?_⟩;constructor
 ·intro k o' hk;simp only[aL]at hk;split at hk
  ·injection hk with hk;subst hk;rename_i hki;exact⟨.none,by simp[ins,hki],ho⟩
  ·obtain⟨B,hB,hO⟩:=h.objs k o' hk;exact⟨B,iT hn _ _ hB,OR.mono hS.ext hS.same hS.inc (fun _ _=>rfl) hO⟩
 ·intro k k' o1 o2 B1 B2 b h1 h2 h3 h4 h5 h6;simp only[aL]at h1 h2;simp only[ins]at h3 h4;split at h3
  ·injection h3 with h3;subst h3;cases h5
  ·split at h4
   ·injection h4 with h4;subst h4;cases h6
   ·rename_i a b;rw[if_neg a]at h1;rw[if_neg b]at h2;exact h.injB k k' o1 o2 B1 B2 _ h1 h2 h3 h4 h5 h6
 ·intro k o' B b h1 h2 h3;simp only[aL]at h1;simp only[ins]at h2;split at h2
  ·injection h2 with h2;subst h2;cases h3
  ·rename_i a;rw[if_neg a]at h1;exact h.ownB k o' B b h1 h2 h3
 ·exact h.lt
 ·exact h.up
 ·exact h.keep
 ·exact h.le
 ·exact h.os
 ·exact h.tape
 ·exact h.output
 ·intro j C hj;exact iT hn _ _ (h.anch j C hj)
 ·exact h.vars
theorem jL:∀ (rows:List (List AV)) (c:Array Value) (off sz:Nat) (l:List Value),(∀ r∈rows,r.length=sz)->VRl P β w I rows.flatten l->(∀ u∈l,oneCell u)->(∀ j u,l[j]? =some u->c[off+j]? =some u)->ORows P β w I rows c off sz
 |[],_,_,_,_,_,_,_,_=>by simp[ORows]
 |r::rs,c,off,sz,l,hr,hl,h1,hc=>by
  have hrl:=hr r (by simp);simp only[flatten_cons]at hl;have ht:=VRl.take sz _ _ hl;have hd:=VRl.drop sz _ _ hl;rw[List.take_append_of_le_length (by omega),List.take_of_length_le (by omega)]at ht;rw[List.drop_append_of_le_length (by omega),List.drop_of_length_le (by omega),nil_append]at hd;simp only[ORows];refine⟨hrl,ORow.of_list r _ c off ht (fun u hu=>h1 u (List.mem_of_mem_take hu)) (fun j u hj=>?_),jL rs c (off+sz) sz _ (fun r' hr'=>hr r' (by simp[hr'])) hd (fun u hu=>h1 u (List.mem_of_mem_drop hu)) (fun j u hj=>?_)⟩
  ·rw[List.getElem?_take]at hj;split at hj
   ·exact hc j u hj
   ·cases hj
  ·rw[List.getElem?_drop]at hj;rw[show off+sz+j=off+(sz+j)by omega];exact hc _ u hj
theorem ORows.list:∀ (rows:List (List AV)) (c:Array Value) (off sz:Nat),ORows P β w I rows c off sz->∃ l:List Value,VRl P β w I rows.flatten l∧(∀ u∈l,oneCell u)∧l.length=rows.length*sz∧(∀ r∈rows,r.length=sz)∧∀ j u,l[j]? =some u->c[off+j]? =some u
 |[],_,_,_,_=>⟨[],by simp[VRl],by simp,by simp,by simp,by simp⟩
 |r::rs,c,off,sz,⟨h1,h2,h3⟩=>by
  obtain⟨l1,a1,a2,a3⟩:=ORow.list r c off h2;obtain⟨l2,b1,b2,b3,b4,b5⟩:=ORows.list rs c (off+sz) sz h3;have hl1:l1.length=sz:=by rw[VRl.length _ _ a1,h1]
  refine⟨l1++l2,by simp only[flatten_cons];exact VRl.append _ _ _ _ a1 b1,fun u hu=>?_,?_,fun r' hr'=>?_,fun j u hj=>?_⟩
  ·rcases mem_append.1 hu with hu |hu
   ·exact a2 u hu
   ·exact b2 u hu
  ·simp only[length_append,length_cons,hl1,b3,Nat.add_mul];omega
  ·rcases mem_cons.1 hr' with rfl |hr'
   ·exact h1
   ·exact b4 r' hr'
  ·by_cases hjs:j < sz
   ·rw[List.getElem?_append_left (by omega)]at hj;exact a3 j u hj
   ·rw[List.getElem?_append_right (by omega)]at hj;have:=b5 _ u hj;rw[hl1]at this;rw[show off+j=off+sz+(j - sz)by omega];exact this
theorem TRows.list {b sz:Nat}:∀ (rows:List (List Tree)) (off:Nat),TRows w I rows b off sz->∃ l:List Value,VRl P β w I (ay rows).flatten l∧(∀ u∈l,oneCell u)∧l.length=rows.length*sz∧(∀ r∈ay rows,r.length=sz)∧∀ j u,l[j]? =some u->w.cell? ⟨b,off+j,none⟩=some u
 |[],_,_=>⟨[],by simp[ay,VRl],by simp,by simp,by simp[ay],by simp⟩
 |r::rs,off,h=>by
  simp only[TRows]at h;obtain⟨h1,h2,h3⟩:=h;obtain⟨l1,a1,a3⟩:=TRow.list (P:=P) (β:=β) r b off h2;obtain⟨l2,b1,b2,b3,b4,b5⟩:=TRows.list rs (off+sz) h3;have hl1:l1.length=sz:=by rw[VRl.length _ _ a1];simpa using h1
  have a2:∀ u∈l1,oneCell u:=by
   intro u hu;obtain⟨j,hj⟩:=List.getElem?_of_mem hu;have hjl:j < (r.map AV.t).length:=(by have:=(List.getElem?_eq_some_iff.1 hj).1;rw[VRl.length _ _ a1]at this;exact this);obtain⟨u',hu',hv⟩:=VRl.get _ _ j _ a1 (List.getElem?_eq_getElem hjl);rw[hj]at hu';injection hu' with hu';subst hu';refine VR.one ?_ hv;simp[jK]
  refine⟨l1++l2,by simp only[ay,map_cons,flatten_cons];exact VRl.append _ _ _ _ a1 b1,fun u hu=>?_,?_,fun r' hr'=>?_,fun j u hj=>?_⟩
  ·rcases mem_append.1 hu with hu |hu
   ·exact a2 u hu
   ·exact b2 u hu
  ·simp only[length_append,length_cons,hl1,b3,Nat.add_mul];omega
  ·simp only[ay,map_cons,mem_cons]at hr';rcases hr' with rfl |hr'
   ·simpa using h1
   ·exact b4 r' hr'
  ·by_cases hjs:j < sz
   ·rw[List.getElem?_append_left (by omega)]at hj;exact a3 j u hj
   ·rw[List.getElem?_append_right (by omega)]at hj;have:=b5 _ u hj;rw[hl1]at this;rw[show off+j=off+sz+(j - sz)by omega];exact this
def ack (P:Program) (β:Nat->Option Blk) (w:World) (I:Nat->Prop) (size n:Nat) (new:List (List AV)) (v:Value):Prop:=
 (n=0∧∃ b c,v= .slice b 0 c)∨∃ (a:Addr) (c:Nat) (l:List Value),v= .slice (some a) n c∧0 < n∧VRl P β w I new.flatten l∧(∀ u∈l,oneCell u)∧l.length=n*size∧(∀ r∈new,r.length=size)∧∀ j u,l[j]? =some u->w.cell? (a.add j)=some u
theorem OD (h:Mem P w0 O0 β I obj w) {size n:Nat} {ob:Prop} {new:List (List AV)} {y:AV} {get:Nat->Option aF} {v:Value} (hg:∀ k o,get k=some o->obj k=some o)
 (hs:Kj size y get=some (n,ob,new)) (hob:ob) (hl:new.length=n) (hy:VR P β w I y v):ack P β w I size n new v:=by
 unfold Kj at hs;split at hs
 ·rename_i k off len;cases hk:get k with
  |none=>simp[hk]at hs
  |some o=>
   simp only[hk,bind_some]at hs;split at hs
   ·rename_i hsz;simp only[Option.some.injEq,Prod.mk.injEq]at hs;obtain⟨rfl,_,rfl⟩:=hs;simp only[VR]at hy;rcases hy with ⟨_,rfl,_,rfl⟩ |⟨b,sz,m,cap,a,h1,rfl,h2,h3,h4⟩
    ·exact .inl ⟨rfl,_,_,rfl⟩
    ·by_cases h0:len=0
     ·subst h0;exact .inl ⟨rfl,_,_,rfl⟩
     ·obtain⟨B,hB,hO⟩:=h.objs k o (hg k o hk);rw[h1]at hB;injection hB with hB;subst hB;obtain⟨hs,c,e,hc,_,hO⟩:=hO;have h5:=ORows.take len _ _ _ _ (ORows.drop off _ _ _ _ hO);obtain⟨l,g1,g2,g3,g4,g5⟩:=ORows.list _ _ _ _ h5;refine .inr ⟨_,cap,l,rfl,by omega,g1,g2,?_,fun r hr=>?_,fun j u hj=>?_⟩
      ·rw[g3,hl,hs,hsz]
      ·rw[g4 r hr,hs,hsz]
      ·rw[addr_add,h4 (by omega)];simp[World.cell?,hc,g5 j u hj]
   ·cases hs
 ·rename_i rows;simp only[Option.some.injEq,Prod.mk.injEq]at hs;obtain⟨rfl,rfl,rfl⟩:=hs;simp only[VR,TR]at hy;rcases hy with ⟨rfl,_,_,rfl,_⟩ |⟨b,off,cap,sz,rfl,h1,h2,h3⟩
  ·exact .inl ⟨rfl,_,_,rfl⟩
  ·cases rows with
   |nil=>exact .inl ⟨rfl,_,_,rfl⟩
   |cons r rs=>
    obtain⟨l,g1,g2,g3,g4,g5⟩:=TRows.list (P:=P) (β:=β) _ _ h3;have hsz:sz=size:=by
     have e1:=hob r (by simp);simp only[TRows]at h3;omega
    subst hsz;exact .inr ⟨_,cap,l,rfl,by simp,g1,g2,g3,g4,fun j u hj=>by rw[addr_add];exact g5 j u hj⟩
 ·cases hs
theorem oneCell' {u:Value} (h:oneCell u):u.oneCell'=true:=by cases u<;>first |rfl |exact h.elim
theorem Mem.grow (h:Mem P w0 O0 β I obj w) (hn:β i=none) {size:Nat} {rows:List (List AV)} {l:List Value} {e:TypeId} {rest:Array Value} (hr:∀ r∈rows,r.length=size) (hl:VRl P β w I rows.flatten l) (h1:∀ u∈l,oneCell u):
 Step β I w i (ins β i (.at w.heap.size size (ex0 (l.toArray++rest).size))) I (w.drew.alloc (.cells (l.toArray++rest) e))∧
 Mem P w0 O0 (ins β i (.at w.heap.size size (ex0 (l.toArray++rest).size))) I (aL obj [(i,some ⟨size,rows⟩)]) (w.drew.alloc (.cells (l.toArray++rest) e)):=by
 have hd:=h.drew;obtain⟨hS,hM⟩:=Mem.alloc (i:=i) (o:=⟨size,rows⟩) (c:=l.toArray++rest) (e:=e) hd hn (jL rows _ 0 size l hr (VRl.mono (w:=w) (w':=w.drew) (fun _ _ h=>h) (fun _ _=>rfl) (fun _ h=>h) _ _ hl) h1 (fun j u hj=>by
  have hlt:=(List.getElem?_eq_some_iff.1 hj).1;rw[Nat.zero_add,Array.getElem?_append_left (by simpa using hlt)];simpa using hj))
 exact⟨⟨hS.other,hS.ext,fun b hb=>hS.same b hb,hS.inc⟩,hM⟩
theorem zw (hT:bI P T) (h:Mem P w0 O0 β I obj w) (hn:β i=none) {t e ty:TypeId} {ei:TyI} (hund:P.underlying t=some (.slice e)) (hei:T e=some ei) {n:Nat} {new:List (List AV)} {v:Value}
 (hsrc:ack P β w I ei.size n new v) (hl:new.length=n) (h48:n*ei.bytes<=140737488355328) (h63:n<=maxLen):
 ∃ u w' β',(Builtin.append_ #[t,t] ty #[.slice none 0 0,v]).run P w= .ok u w'∧Step β I w i β' I w'∧Mem P w0 O0 β' I (aL obj [(i,some ⟨ei.size,new⟩)]) w'∧VR P β' w' I (.own i 0 n) u:=by
 have he:=hT e ei hei;obtain⟨info,d,z,g1,g2,g3,g4,g5,g6,g7,g8⟩:=he.ex;rcases hsrc with ⟨rfl,b,c,rfl⟩ |⟨a,c,l,rfl,hpos,q1,q2,q3,q4,q5⟩
 ·have hnew:new=[]:=eq_nil_of_length_eq_zero hl;subst hnew;obtain⟨hS,hM⟩:=Mem.addNil (i:=i) (o:=⟨ei.size,[]⟩) h hn rfl;refine⟨.slice none 0 0,w,_,?_,hS,hM,by simp only[VR];exact .inl ⟨by simp[ins],trivial,trivial,trivial⟩⟩;cases b<;>simp[Builtin.append_,run_underlying hund,sizeOf,typeInfo,g1,Builtin.lenOf,Builtin.firstCells,loadCells,loadCellsFrom]
 ·have hm:n<=9223372036854775807:=by simp only[maxLen]at h63;omega
  have hrun:=run_append_nil (P:=P) w t ty e info z hund g1 g5 a n c l (by rw[q3,g3]) q5 hpos (by omega) (by rw[g4];omega);obtain⟨hS,hM⟩:=Mem.grow (i:=i) (e:=e) (rest:=Builtin.zeroCells z.cells (grownCap w n 0 e - n)) h hn q4 q1 q2;refine⟨_,_,_,hrun,hS,hM,?_⟩;simp only[VR];refine .inr ⟨w.heap.size,ei.size,_,_,0,by simp[ins];rfl,rfl,grownCap_ge w n 0 e,?_,by simp⟩;have hz:z.cells.size=ei.size:=by rw[<- Array.length_toList,g6];exact he.len
  have hge:=grownCap_ge w n 0 e;simp only[size_zeroCells,Xf,Xg,q3,hz,Nat.zero_add,<- Nat.add_mul];exact Nat.mul_le_mul_right _ (by omega)
theorem Jf (hT:bI P T) (h:Mem P w0 O0 β I obj w) (hn:β i=none) {t e ty:TypeId} {ei:TyI} (hund:P.underlying t=some (.slice e)) (hei:T e=some ei) {n k off len:Nat} {o:aF} {new:List (List AV)} {u v:Value}
 (hk:obj k=some o) (hsz:o.sz=ei.size) (hlen:(o.rows.drop off).length=len) (hx:VR P β w I (.own k off len) u)
 (hsrc:ack P β w I ei.size n new v) (hl:new.length=n) (h48:(len+n)*ei.bytes<=140737488355328) (h63:len+n<=maxLen):
 ∃ z w' β',(Builtin.append_ #[t,t] ty #[u,v]).run P w= .ok z w'∧Step β I w i β' I w'∧Mem P w0 O0 β' I (aL obj [(i,some ⟨ei.size,o.rows.drop off++new⟩),(k,none)]) w'∧VR P β' w' I (.own i 0 (len+n)) z:=by
 have he:=hT e ei hei;obtain⟨info,d,z,g1,g2,g3,g4,g5,g6,g7,g8⟩:=he.ex;have hki:k≠i:=fun e=>by
  obtain⟨B,hB,_⟩:=h.objs k o hk;rw[e,hn]at hB;cases hB
 have dropk:∀ {β':Nat->Option Blk} {I':Nat->Prop} {w':World} {o':aF},Mem P w0 O0 β' I' (aL obj [(i,some o')]) w'->Mem P w0 O0 β' I' (aL obj [(i,some o'),(k,none)]) w':=by
  intro β' I' w' o' hM;refine hM.drop _ fun j oj hj=>?_;simp only[aL]at hj ⊢;split
  ·rw[if_pos ‹_›]at hj;exact hj
  ·rw[if_neg ‹_›]at hj;split at hj
   ·cases hj
   ·exact hj
 simp only[VR]at hx;rcases hx with ⟨hβ,rfl,_,rfl⟩ |⟨b,sz,m,cap,a,hβ,rfl,h2,h3,h4⟩
 ·have hr:o.rows.drop off=[]:=eq_nil_of_length_eq_zero hlen;rw[hr,nil_append,Nat.zero_add];obtain⟨z',w',β',e1,e2,e3,e4⟩:=zw (ty:=ty) hT h hn hund hei hsrc hl (by simpa using h48) (by simpa using h63);exact⟨z',w',β',e1,e2,dropk e3,e4⟩
 ·obtain⟨B,hB,hO⟩:=h.objs k o hk;rw[hβ]at hB;injection hB with hB;subst hB;obtain⟨hs,c,ce,hc,hcn,hO⟩:=hO;have hle:m.s+off*sz<=m.m:=Nat.le_trans (Nat.add_le_add_left (Nat.mul_le_mul_right _ (Nat.le_add_right _ _)) _) h3;rw[Nat.add_mul]at h3;have hO:=ORows.drop off _ _ _ _ hO;obtain⟨hS0,hM0⟩:=Mem.rename1 (C:= .at b sz ⟨m.m,m.s+off*sz,hle⟩) (o1:=⟨ei.size,o.rows.drop off⟩) h hn hk hβ rfl ⟨by rw[hs,hsz],c,ce,hc,hcn,hO⟩;generalize hp:m.s+off*sz=p at hO hle hS0 hM0 h4;rcases hsrc with ⟨rfl,b',c',rfl⟩ |⟨a',c',l,rfl,hpos,q1,q2,q3,q4,q5⟩
  ·have hnew:new=[]:=eq_nil_of_length_eq_zero hl;subst hnew;rw[List.append_nil,Nat.add_zero];refine⟨.slice (some ⟨b,a,none⟩) len cap,w,_,?_,hS0,hM0,?_⟩
   ·cases b'<;>simp[Builtin.append_,run_underlying hund,sizeOf,typeInfo,g1,Builtin.lenOf,Builtin.firstCells,loadCells,loadCellsFrom,h2,storeCells]
   ·simp only[VR];exact .inr ⟨b,sz,⟨m.m,p,hle⟩,cap,a,by simp[ins],rfl,h2,by simp only[Nat.zero_add];omega,fun h=>by simp[h4 h]⟩
  ·obtain⟨ol,o1,o2,o3,o4,o5⟩:=ORows.list _ _ _ _ hO;have hrl:∀ r∈o.rows.drop off++new,r.length=ei.size:=fun r hr=>by
    rcases mem_append.1 hr with hr |hr
    ·rw[o4 r hr,hs,hsz]
    ·exact q4 r hr
   have hol:ol.length=len*info.size:=(by rw[o3,hlen,hs,hsz,g3]);by_cases hroom:len+n<=cap
   ·
    have ha:a=p:=h4 (by omega);subst ha;have hcsz:a+cap*info.size<=c.size:=(by rw[g3,<- hsz,<- hs,hcn];omega);have hfit:a+len*info.size+l.length<=c.size:=by
     have:(len+n)*info.size<=cap*info.size:=Nat.mul_le_mul_right _ hroom;rw[Nat.add_mul]at this;rw[q3,<- g3];omega
    have hf:=run_firstCells_some (P:=P) w info.size n a' n c' l (by rw[q3,g3]) q5;have hst:=run_storeCells_at P b (a+len*info.size) ce l 0 c w hc (by omega) (fun u hu=>oneCell' (q2 u hu));simp only[Nat.add_zero]at hst;generalize hc':(List.take (a+len*info.size) c.toList++l++List.drop (a+len*info.size+l.length) c.toList).toArray=cc at hst;have hccs:cc.size=c.size:=(by rw[<- hc'];simp[length_take,length_drop];omega);have hrun:(Builtin.append_ #[t,t] ty #[.slice (some ⟨b,a,none⟩) len cap,.slice (some a') n c']).run P w= .ok (.slice (some ⟨b,a,none⟩) (len+n) cap) (w.setRow b cc):=by
     have hf':(Builtin.firstCells info.size n (.slice (some a') n c')).run P w= .ok l.toArray w:=hf;simp[Builtin.append_,run_underlying hund,sizeOf,typeInfo,g1,Builtin.lenOf,hroom,hf',addr_add,hst]
    have hcells:∀ j u,(ol++l)[j]? =some u->cc[a+j]? =some u:=by
     intro j u hj;rw[<- hc',List.getElem?_toArray];have h1:(c.toList.take (a+len*info.size)).length=a+len*info.size:=(by simp[length_take];omega);by_cases hjl:j < ol.length
     ·rw[List.getElem?_append_left hjl]at hj;have:=o5 j u hj;rw[append_assoc,List.getElem?_append_left (by omega),List.getElem?_take,if_pos (by omega),Array.getElem?_toList];exact this
     ·rw[List.getElem?_append_right (by omega)]at hj;have hjl2:=(List.getElem?_eq_some_iff.1 hj).1;rw[append_assoc,List.getElem?_append_right (by omega),h1,List.getElem?_append_left (by omega),show a+j - (a+len*info.size)=j - ol.length by omega];exact hj
    obtain⟨hSame,hM⟩:=Mem.write (o':=⟨ei.size,o.rows.drop off++new⟩) hM0 (k:=i) (o:=⟨ei.size,o.rows.drop off⟩) (b:=b) (s:=sz) (n:=⟨m.m,a,hle⟩) (by simp only[aL,if_true]) (by simp only[ins,if_true]) (c':=cc) (e:=ce) (setRow_heap w b c cc ce (0,0) hc) (fun b' hb=>setRow_other w b b' cc hb) (by simp) rfl rfl rfl (by rw[hs,hsz]) (by simp;omega)
     (jL _ _ _ ei.size (ol++l) hrl (VRl.mono hS0.ext (fun _ _=>rfl) (fun _ h=>h) _ _ (by simp only[List.flatten_append];exact VRl.append _ _ _ _ o1 q1)) (fun u hu=>by
      rcases mem_append.1 hu with hu |hu
      ·exact o2 u hu
      ·exact q2 u hu) hcells)
    refine⟨_,_,_,hrun,⟨hS0.other,hS0.ext,hSame,fun _ h=>h⟩,hM.drop _ (fun j oj hj=>?_),?_⟩
    ·simp only[aL]at hj ⊢;split at hj
     ·rw[if_pos ‹_›];exact hj
     ·rw[if_neg ‹_›,if_neg ‹_›];exact hj
    ·simp only[VR];exact .inr ⟨b,sz,⟨m.m,a,hle⟩,cap,a,by simp[ins],rfl,hroom,by simp only[Nat.zero_add];omega,by simp⟩
   ·have holds:∀ j v,ol[j]? =some v->w.cell? ((⟨b,a,none⟩:Addr).add j)=some v:=by
     intro j v hj;have hjl:=(List.getElem?_eq_some_iff.1 hj).1;have hlen0:len≠0:=fun h0=>(by rw[hol,h0]at hjl;simp at hjl);rw[addr_add,h4 (by omega)];have:=o5 j v hj;simp[World.cell?,hc]at this ⊢;exact this
    have hm:len+n<=9223372036854775807:=(by simp only[maxLen]at h63;omega);have hrun:=run_append_grow (P:=P) w t ty e info z hund g1 g5 ⟨b,a,none⟩ len cap ol hol holds a' n c' l (by rw[q3,g3]) q5 (by omega) (by omega) (growslice_fits (by omega) (by rw[g4];exact h48));have happ:VRl P β w I (o.rows.drop off++new).flatten (ol++l):=(by simp only[List.flatten_append];exact VRl.append _ _ _ _ o1 q1);obtain⟨hS,hM⟩:=Mem.grow (i:=i) (e:=e) (rest:=Builtin.zeroCells z.cells (grownCap w (len+n) cap e - (len+n))) h hn hrl happ (fun u hu=>by
     rcases mem_append.1 hu with hu |hu
     ·exact o2 u hu
     ·exact q2 u hu)
    have earr:ol.toArray++l.toArray++Builtin.zeroCells z.cells (grownCap w (len+n) cap e - (len+n))=(ol++l).toArray++Builtin.zeroCells z.cells (grownCap w (len+n) cap e - (len+n)):=(by simp);rw[earr]at hrun;refine⟨_,_,_,hrun,hS,dropk hM,?_⟩;simp only[VR];refine .inr ⟨w.heap.size,ei.size,_,_,0,by simp[ins];rfl,rfl,grownCap_ge w (len+n) cap e,?_,by simp⟩;have hz:z.cells.size=ei.size:=(by rw[<- Array.length_toList,g6];exact he.len);have hge:=grownCap_ge w (len+n) cap e;simp only[size_zeroCells,Xf,Xg,q3,hol,hz,g3,Nat.zero_add,<- Nat.add_mul];exact Nat.mul_le_mul_right _ (by omega)
end
section
variable {P:Program} {T:Tab} {w0:World} {O0:Was} {β:Nat->Option Blk} {I:Nat->Prop} {obj:Nat->Option aF} {w:World} {i:Nat}
theorem Ny (hT:bI P T) (h:Mem P w0 O0 β I obj w) (hn:β (nid i)=none) {t ty:TypeId} {x y:AV} {orc:Orc} {get:Nat->Option aF} {out:Out} {u v:Value} (hg:∀ k o,get k=some o->obj k=some o)
 (ha:uz T i t x y orc get=some out) (hob:out.ob) (hx:VR P β w I x u) (hy:VR P β w I y v):
 ∃ z w' β',(Builtin.append_ #[t,t] ty #[u,v]).run P w= .ok z w'∧Step β I w (nid i) β' I w'∧Mem P w0 O0 β' I (aL obj out.upd) w'∧VR P β' w' I out.v z:=by
 unfold uz at ha;cases hti:T t with
 |none=>simp[hti]at ha
 |some ti=>
  have ht:=hT t ti hti;simp only[hti,bind_some]at ha;split at ha
  ·rename_i e hkd;cases hei:T e with
   |none=>simp[hei]at ha
   |some ei=>
    simp only[hei,bind_some]at ha;have hund:=dF ht hkd;split at ha
    ·rename_i rs;cases hs:Kj ei.size y get with
     |none=>simp[hs]at ha
     |some p=>
      obtain⟨n,ob,new⟩:=p;simp only[hs,bind_some]at ha;split at ha
      ·rename_i k off len;cases hk:get k with
       |none=>simp[hk]at ha
       |some o=>
        simp only[hk,bind_some]at ha;split at ha
        ·rename_i hsz;injection ha with ha;subst ha;obtain⟨b1,b2,b3,rfl,b5,b6⟩:=hob;have e:(o.rows.drop off++new).length=len+n:=(by rw[length_append,b2,b3]);simp only[e];exact Jf hT h hn hund hei (hg k o hk) hsz b2 hx (OD h hg hs b1 b3 hy) b3 b5 b6
        ·cases ha
      ·injection ha with ha;subst ha;obtain⟨b1,b2,rfl,b5,b6⟩:=hob;simp only[VR]at hx;subst hx;simp only[b2];exact zw hT h hn hund hei (OD h hg hs b1 b2 hy) b2 b5 b6
      ·cases ha
    ·cases ha
  ·cases ha
theorem VRl.map {ρ:Operand->AV} {r:Operand->Value} (hρ:∀ x,VR P β w I (ρ x) (r x)):∀ (l:List Operand),VRl P β w I (l.map ρ) (l.map r)
 |[]=>by simp[VRl]
 |x::xs=>by simp only[map_cons,VRl];exact⟨hρ x,VRl.map hρ xs⟩
theorem Kn (hT:bI P T) (h:Mem P w0 O0 β I obj w) (hn:β (nid i)=none) {b:Builtin} {args:List AV} {tys:Array TypeId} {orc:Orc} {get:Nat->Option aF} {out:Out} (hg:∀ k o,get k=some o->obj k=some o)
 {vs:Array Value} {ty:TypeId} {ops:Array Operand} (ha:wu T i b args tys.toList orc get=some out) (hob:out.ob) (hv:VRl P β w I args vs.toList) {r:Operand->Value} (hops:vs=ops.map r) {dst:Option Tmp} {pos:String} {after:Array Edge} {guard:Option (Nat×Bool)}:
 Did P w0 O0 β I obj w i out ((execOp r ⟨dst,.call { callee:= .builtin b,args:=ops,argTypes:=tys },ty,pos,after,guard⟩).run P w):=by
 unfold wu at ha;split at ha
 ·rename_i x t htys;obtain⟨v,hvs⟩:∃ v,vs=#[v]:=by
   obtain⟨l⟩:=vs
   match l,hv with
   |[v],_=>exact⟨v,rfl⟩
   |[],h=>simp[VRl]at h
   |_::_::_,h=>simp[VRl]at h
  have ht:tys=#[t]:=by cases tys;simpa using htys
  subst hvs ht;simp only[VRl]at hv;obtain⟨u,h1,h2,h3⟩:=U4 (ty:=ty) hT ha hob hv.1;refine⟨u,w,β,I,.inl ?_,Step.refl ..,by rw[h3];exact h,h2⟩;simp[execOp,resolve,invoke,builtin,<- hops,h1]
 ·obtain⟨u,h1,h2,h3⟩:=OA (tys:=tys) (ty:=ty) ha hv;simp only[if_true]at h1;refine⟨u,w,β,I,.inl ?_,Step.refl ..,by rw[h3];exact h,h2⟩;simp[execOp,resolve,invoke,builtin,<- hops,h1]
 ·obtain⟨u,h1,h2,h3⟩:=OA (tys:=tys) (ty:=ty) ha hv;simp only[Bool.false_eq_true,if_false]at h1;refine⟨u,w,β,I,.inl ?_,Step.refl ..,by rw[h3];exact h,h2⟩;simp[execOp,resolve,invoke,builtin,<- hops,h1]
 ·rename_i x y t u htys;split at ha
  ·rename_i htu;subst htu;obtain⟨v,v',hvs⟩:∃ v v',vs=#[v,v']:=by
    obtain⟨l⟩:=vs
    match l,hv with
    |[v,v'],_=>exact⟨v,v',rfl⟩
    |[],h=>simp[VRl]at h
    |[_],h=>simp[VRl]at h
    |_::_::_::_,h=>simp[VRl]at h
   have ht:tys=#[t,t]:=(by cases tys;simpa using htys);subst hvs ht;simp only[VRl]at hv;obtain⟨z,w',β',h1,h2,h3,h4⟩:=Ny (ty:=ty) hT h hn hg ha hob hv.1 hv.2.1;refine⟨z,w',β',I,.inl ?_,h2,h3,h4⟩;simp[execOp,resolve,invoke,builtin,<- hops,h1]
  ·cases ha
 ·cases ha
theorem Ij (hT:bI P T) (h:Mem P w0 O0 β I obj w) (hn:β (nid i)=none) {o:Oper} {orc:Orc} {ρ:Operand->AV} {get:Nat->Option aF} {out:Out} (hg:∀ k o,get k=some o->obj k=some o)
 {r:Operand->Value} (hρ:∀ x,VR P β w I (ρ x) (r x)) (ha:kF T i o orc ρ get=some out) (hob:out.ob):Did P w0 O0 β I obj w i out ((execOp r o).run P w):=by
 obtain⟨dst,op,ty,pos,after,guard⟩:=o;have val:∀ {s:Sem Value} {z:Value},s.run P w= .ok z w->out.upd=[]->VR P β w I out.v z->Did P w0 O0 β I obj w i out ((do pure (.value (<- s)):Sem Next).run P w):=by
  intro s z h1 h2 h3;refine⟨z,w,β,I,.inl (by simp[h1]),Step.refl ..,by rw[h2];exact h,h3⟩
 have val':∀ {s:Sem Value} {z:Value} {w':World} {β':Nat->Option Blk},s.run P w= .ok z w'->Step β I w (nid i) β' I w'->Mem P w0 O0 β' I (aL obj out.upd) w'->VR P β' w' I out.v z->Did P w0 O0 β I obj w i out ((do pure (.value (<- s)):Sem Next).run P w):=by
  intro s z w' β' h1 h2 h3 h4;exact⟨z,w',β',I,.inl (by simp[h1]),h2,h3,h4⟩
 unfold kF at ha;split at ha
 ·rename_i x heq;simp only at heq;subst heq;simp only[pv,Option.some.injEq]at ha;subst ha;exact Did.pure h (hρ x)
 ·rename_i x heq;simp only at heq;subst heq;simp only[pv,Option.some.injEq]at ha;subst ha;exact Did.pure h (hρ x)
 ·rename_i c a b heq;simp only at heq;subst heq;split at ha
  ·rename_i t hc;simp only[pv,Option.some.injEq]at ha;subst ha;have h1:=hρ c;rw[hc]at h1;simp only[VR,TR]at h1;refine⟨if t then r a else r b,w,β,I,.inl ?_,Step.refl ..,h,?_⟩
   ·simp only[execOp,h1.1,asBool];simp
   ·rw[Kk];cases t
    ·exact hρ b
    ·exact hρ a
  ·cases ha
 ·rename_i e heq;simp only at heq;subst heq;obtain⟨u,w',β',h1,h2,h3,h4⟩:=Qh hT h hn ha;exact val' h1 h2 h3 h4
 ·rename_i e x heq;simp only at heq;subst heq;obtain⟨u,w',β',h1,h2,h3,h4⟩:=U2 (e:=e) h hn ha (hρ x);exact val' h1 h2 h3 h4
 ·rename_i t parts heq;simp only at heq;subst heq;obtain⟨z,h1,h2,h3⟩:=Ql (w:=w) (P:=P) (β:=β) (I:=I) (vs:=parts.map fun (i,x)=>(i,r x)) hT ha (by simp) (by
   simp only[Array.toList_map,map_map];have hm:=VRl.map (fun x=>hρ x) (parts.toList.map (·.2));simp only[map_map]at hm;exact hm)
  exact val h1 h3 h2
 ·rename_i t len parts heq;simp only at heq;subst heq;obtain⟨z,w',β',h1,h2,h3,h4⟩:=Er (vs:=parts.map fun (i,x)=>(i,r x)) hT h hn ha (by simp) (by
   simp only[Array.toList_map,map_map];have hm:=VRl.map (fun x=>hρ x) (parts.toList.map (·.2));simp only[map_map]at hm;exact hm)
  exact val' h1 h2 h3 h4
 ·rename_i t a heq;simp only at heq;subst heq;obtain⟨u,h1,h2,h3⟩:=Ii hT h hg ha hob (hρ a);exact val h1 h3 h2
 ·rename_i t a x heq;simp only at heq;subst heq;obtain⟨w',h1,h2,h3,h4⟩:=Qg hT h hg ha hob (hρ a) (hρ x);exact⟨undef,w',β,I,.inr ⟨by simp[execOp,h1],rfl⟩,⟨fun _ _=>rfl,fun _ _ h=>h,h2,fun _ h=>h⟩,h3,by rw[h4];simp[VR]⟩
 ·rename_i op t x y yt heq;simp only at heq;subst heq;obtain⟨z,h1,h2,h3⟩:=U3 (xo:=x) (yo:=y) hT ha hob (hρ x) (hρ y);exact val h1 h3 h2
 ·rename_i op t x heq;simp only at heq;subst heq;obtain⟨z,h1,h2,h3⟩:=X5 ha (hρ x);exact val h1 h3 h2
 ·rename_i f first caps heq
  simp only at heq;subst heq;simp only[pv,Option.some.injEq]at ha;subst ha;refine⟨.func (.func f) (first.map r) (caps.map r),w,β,I,.inl ?_,Step.refl ..,h,?_⟩
  ·simp[execOp,Instr.makeFunc]
  ·simp only[VR];exact⟨_,_,rfl,by rw[Array.toList_map];exact VRl.map hρ _,by rw[Array.toList_map];exact VRl.map hρ _⟩
 ·rename_i t x lo hi heq;simp only at heq;subst heq
  obtain⟨u,h1,h2,h3⟩:=Qm (lov:=lo.map r) (hiv:=hi.map r) hT h hg ha hob (hρ x)
   (fun y hy=>by
    cases lo with
    |none=>simp at hy
    |some z=>simp at hy;subst hy;exact⟨r z,rfl,hρ z⟩) (fun hy=>by cases lo<;>simp at hy ⊢)
   (fun y hy=>by
    cases hi with
    |none=>simp at hy
    |some z=>simp at hy;subst hy;exact⟨r z,rfl,hρ z⟩) (fun hy=>by cases hi<;>simp at hy ⊢)
  exact val h1 h3 h2
 ·rename_i t x f heq;simp only at heq;subst heq;obtain⟨u,h1,h2,h3⟩:=Gm hT ha (hρ x);exact val h1 h3 h2
 ·rename_i t x f heq;simp only at heq;subst heq;obtain⟨u,h1,h2,h3⟩:=Qi hT ha (hρ x);exact val h1 h3 h2
 ·rename_i t x j heq;simp only at heq;subst heq;obtain⟨u,h1,h2,h3⟩:=Gn hT h hg ha hob (hρ x) (hρ j);exact val h1 h3 h2
 ·rename_i x j heq;simp only at heq;subst heq;obtain⟨u,h1,h2,h3⟩:=Kl ha (hρ x);exact val h1 h3 h2
 ·rename_i b args tys heq;simp only at heq;subst heq;exact Kn (ty:=ty) hT h hn hg (vs:=args.map r) ha hob (by rw[Array.toList_map];exact VRl.map hρ _) rfl
 ·cases ha
end
def Tree.flat:Tree->Prop
 | .sc _=>True
 | .sl _=>False
def TV.flat:TV->Prop
 | .s x=>x.flat
 | .a cs=>∀ x∈cs,x.flat
def RC.flat:RC->Prop
 | .d x=>x.flat
 | .fresh _ rows=>∀ r∈rows,∀ x∈r,x.flat
 | .whole _ _=>True
def RV.flat:RV->Prop
 | .one c=>c.flat
 | .tup cs=>∀ c∈cs,c.flat
def Co (i:Nat) (ids:List Nat):RC->AV×List (Nat×Option aF)
 | .whole j len=>(match ids[j]? with |some k=> .own k 0 len |none=> .undef,[])
 | .d x=>(x.av,[])
 | .fresh sz rows=>(.own (nid i) 0 (ay rows).length,[(nid i,some ⟨sz,ay rows⟩)])
def Es (i:Nat) (ids:List Nat):List RC->Option (List AV×List (Nat×Option aF))
 |[]=>some ([],[])
 |c::cs=>(Es i ids cs).bind fun p=>if (Co i ids c).2.isEmpty || p.2.isEmpty then some ((Co i ids c).1::p.1,(Co i ids c).2++p.2)else none
def imp (i:Nat) (ids:List Nat):RV->Option (AV×List (Nat×Option aF))
 | .one c=>some (Co i ids c)
 | .tup cs=>(Es i ids cs).bind fun p=>some (.tup p.1,p.2)
mutual
def jJ (P:Program) (get:Nat->Option aF):AV->List LH->Option (AV×List LH×List Prop)
 | .t x,hs=>some (.t x,hs,[])
 | .agg cs,hs=>(iR P get cs hs).bind fun p=>some (.agg p.1,p.2.1,p.2.2)
 | .tup _,_=>none
 | .own k off len,hs=>match hs with
  | .rows tr::hs=>(get k).bind fun o=>some (.t (.sl tr),hs,[(o.rows.drop off).take len=ay tr∧tr.length=len])
  |_=>none
 | .ptr k row off,hs=>match hs with
  | .row tr::hs=>(get k).bind fun o=>some (.rptr tr off,hs,[o.rows[row]? =some (tr.map AV.t)])
  |_=>none
 | .rptr r o,hs=>some (.rptr r o,hs,[])
 | .fn f first caps,hs=>match hs with
  | .fn::hs=>(iR P get first hs).bind fun p=>(iR P get caps p.2.1).bind fun q=>some (.fn f p.1 q.1,q.2.1,p.2.2++q.2.2)
  | .clo φ::hs=>(iR P get first hs).bind fun p=>(iR P get caps p.2.1).bind fun q=>
   some (.clo φ,q.2.1,p.2.2++(q.2.2++[eO P f∧∀ args r,φ args r->FnP P f (p.1++args.map TV.av++q.1) (.one (.d r))]))
  |_=>none
 | .clo φ,hs=>some (.clo φ,hs,[])
 | .mp _,_=>none
 | .oz k len,hs=>match hs with
  | .rows tr::hs=>(get k).bind fun o=>some (.t (.sl tr),hs,[(o.rows.drop 0).take len=ay tr∧tr.length=len])
  |_=>none
 | .nilsl,hs=>match hs with
  | .nil::hs=>some (.nilsl,hs,[])
  | .emp::hs=>some (.t (.sl []),hs,[])
  |_=>none
 | .ub,_=>none
 | .undef,_=>none
def iR (P:Program) (get:Nat->Option aF):List AV->List LH->Option (List AV×List LH×List Prop)
 |[],hs=>some ([],hs,[])
 |x::xs,hs=>(jJ P get x hs).bind fun p=>(iR P get xs p.2.1).bind fun q=>some (p.1::q.1,q.2.1,p.2.2++q.2.2)
end
def qO (P:Program) (i:Nat) (f:AV) (args:List AV) (orc:Orc) (get:Nat->Option aF):Option Out:=
 match f,orc with
 | .fn F first caps,.call hs rv keep=>(imp i [] rv).bind fun p=>(iR P get (first++args++caps) hs).bind fun q=>
  if keep then some ⟨p.1,p.2,q.2.2++[FnP P F q.1 rv,rv.flat]⟩
  else some ⟨p.1,p.2++(bH (first++args++caps)).map (fun k=>(k,none)),q.2.2++[FnP P F q.1 rv]⟩
 | .clo φ,.cclo hs targs r keep=>(iR P get args hs).bind fun q=>
  if keep then some ⟨r.av,[],q.2.2++[q.1=targs.map TV.av,φ targs r,r.flat]⟩
  else some ⟨r.av,(bH args).map (fun k=>(k,none)),q.2.2++[q.1=targs.map TV.av,φ targs r]⟩
 |_,_=>none
def uE (P:Program) (w0:World) (O0:Was) (β:Nat->Option Blk) (I:Nat->Prop) (obj:Nat->Option aF) (w:World) (i:Nat) (out:Out) (r:Result Next):Prop:=
 ∃ F args,r= .ok (.enter F args) w∧Calls P F args w fun e w'=>∃ v' β' I',e= .returned v'∧Step β I w (nid i) β' I' w'∧Mem P w0 O0 β' I' (aL obj out.upd) w'∧VR P β' w' I' out.v v'
section
variable {P:Program} {T:Tab} {w0:World} {O0:Was} {β:Nat->Option Blk} {I:Nat->Prop} {obj:Nat->Option aF} {w:World} {i:Nat}
mutual
theorem BorL.weaken {get get':Nat->Option aF} (h:∀ k o,get k=some o->get' k=some o):∀ (xs ys:List AV),BorL P get xs ys->BorL P get' xs ys
 |[],[],_=>by simp[BorL]
 |x::xs,y::ys,hb=>by simp only[BorL]at hb ⊢;exact⟨Bor.weaken h x y hb.1,BorL.weaken h xs ys hb.2⟩
 |[],_::_,hb=>by simp[BorL]at hb
 |_::_,[],hb=>by simp[BorL]at hb
theorem Bor.weaken {get get':Nat->Option aF} (h:∀ k o,get k=some o->get' k=some o):∀ (x y:AV),Bor P get x y->Bor P get' x y
 | .t _,_,hb=>by simpa[Bor]using hb
 | .agg cs,y,hb=>by
  simp only[Bor]at hb ⊢;obtain⟨cs',h1,h2⟩:=hb;exact⟨cs',h1,BorL.weaken h cs cs' h2⟩
 | .tup _,_,hb=>by simp[Bor]at hb
 | .own k off len,y,hb=>by
  simp only[Bor]at hb ⊢;obtain⟨o,tr,h1,h2⟩:=hb;exact⟨o,tr,h k o h1,h2⟩
 | .ptr k row off,y,hb=>by
  simp only[Bor]at hb ⊢;obtain⟨o,tr,h1,h2⟩:=hb;exact⟨o,tr,h k o h1,h2⟩
 | .rptr _ _,_,hb=>by simpa[Bor]using hb
 | .fn f first caps,y,hb=>by
  simp only[Bor]at hb ⊢;obtain⟨a,b,h1,h2,h3⟩:=hb;exact⟨a,b,BorL.weaken h first a h1,BorL.weaken h caps b h2,h3⟩
 | .clo _,_,hb=>by simpa[Bor]using hb
 | .oz k len,y,hb=>by
  simp only[Bor]at hb ⊢;obtain⟨o,tr,h1,h2⟩:=hb;exact⟨o,tr,h k o h1,h2⟩
 | .nilsl,_,hb=>by simpa[Bor]using hb
 | .ub,_,hb=>by simp[Bor]at hb
 | .undef,_,hb=>by simp[Bor]at hb
end
mutual
theorem xM {get:Nat->Option aF}:∀ (x:AV) (hs:List LH) (p:AV×List LH×List Prop),jJ P get x hs=some p->(∀ q∈p.2.2,q)->Bor P get x p.1
 | .t x,hs,p,h,_=>by simp only[jJ,Option.some.injEq]at h;subst h;simp[Bor]
 | .agg cs,hs,p,h,ho=>by
  simp only[jJ,ai,Option.some.injEq]at h;obtain⟨q,h1,rfl⟩:=h;simp only[Bor];exact⟨_,rfl,fB cs hs q h1 ho⟩
 | .tup _,_,_,h,_=>by simp[jJ]at h
 | .own k off len,hs,p,h,ho=>by
  simp only[jJ]at h;split at h
  ·simp only[ai,Option.some.injEq]at h;obtain⟨o,h1,rfl⟩:=h;have h2:=ho _ (mem_singleton.2 rfl);simp only[Bor];exact⟨o,_,h1,rfl,h2.1,h2.2⟩
  ·cases h
 | .ptr k row off,hs,p,h,ho=>by
  simp only[jJ]at h;split at h
  ·simp only[ai,Option.some.injEq]at h;obtain⟨o,h1,rfl⟩:=h;have h2:=ho _ (mem_singleton.2 rfl);simp only[Bor];exact⟨o,_,h1,rfl,h2⟩
  ·cases h
 | .rptr r o,hs,p,h,_=>by simp only[jJ,Option.some.injEq]at h;subst h;simp[Bor]
 | .fn f first caps,hs,p,h,ho=>by
  simp only[jJ]at h;split at h
  ·simp only[ai,Option.some.injEq]at h;obtain⟨q,h1,q',h2,rfl⟩:=h;simp only[Bor];exact⟨q.1,q'.1,fB first _ q h1 (fun x hx=>ho x (by simp[hx])),fB caps _ q' h2 (fun x hx=>ho x (by simp[hx])),.inl rfl⟩
  ·simp only[ai,Option.some.injEq]at h;obtain⟨q,h1,q',h2,rfl⟩:=h;have h3:=ho _ (by simp only[mem_append,mem_singleton];exact .inr (.inr rfl));simp only[Bor];exact⟨q.1,q'.1,fB first _ q h1 (fun x hx=>ho x (by simp[hx])),fB caps _ q' h2 (fun x hx=>ho x (by simp[hx])),.inr ⟨_,rfl,h3.1,h3.2⟩⟩
  ·cases h
 | .clo φ,hs,p,h,_=>by simp only[jJ,Option.some.injEq]at h;subst h;simp[Bor]
 | .mp _,_,_,h,_=>by simp[jJ]at h
 | .oz k len,hs,p,h,ho=>by
  simp only[jJ]at h;split at h
  ·simp only[ai,Option.some.injEq]at h;obtain⟨o,h1,rfl⟩:=h;have h2:=ho _ (mem_singleton.2 rfl);simp only[Bor];exact⟨o,_,h1,rfl,h2.1,h2.2⟩
  ·cases h
 | .nilsl,hs,p,h,_=>by
  simp only[jJ]at h;split at h
  ·injection h with h;subst h;simp[Bor]
  ·injection h with h;subst h;simp[Bor]
  ·cases h
 | .ub,_,_,h,_=>by simp[jJ]at h
 | .undef,_,_,h,_=>by simp[jJ]at h
theorem fB {get:Nat->Option aF}:∀ (xs:List AV) (hs:List LH) (p:List AV×List LH×List Prop),iR P get xs hs=some p->(∀ q∈p.2.2,q)->BorL P get xs p.1
 |[],hs,p,h,_=>by simp only[iR,Option.some.injEq]at h;subst h;simp[BorL]
 |x::xs,hs,p,h,ho=>by
  simp only[iR,ai,Option.some.injEq]at h;obtain⟨q,h1,q',h2,rfl⟩:=h;simp only[BorL];exact⟨xM x hs q h1 (fun y hy=>ho y (by simp[hy])),fB xs _ q' h2 (fun y hy=>ho y (by simp[hy]))⟩
end
theorem kS:∀ (l:List Prop),fC l->∀ p∈l,p
 |[],_,_,hp=>by simp at hp
 |[q],h,p,hp=>by rw[mem_singleton]at hp;rw[hp];exact h
 |q::r::l,h,p,hp=>by
  rcases mem_cons.1 hp with e |hp
  ·rw[e];exact h.1
  ·exact kS (r::l) h.2 p hp
theorem Tree.flat_TR {w':World} {I':Nat->Prop}:∀ {x:Tree} {v:Value},x.flat->TR w I x v->TR w' I' x v
 | .sc _,_,_,h=>by simpa[TR]using h
 | .sl _,_,hf,_=>hf.elim
theorem TV.flat_TVR {w':World} {I':Nat->Prop}:∀ {x:TV} {v:Value},x.flat->TVR w I x v->TVR w' I' x v
 | .s _,_,hf,h=>Tree.flat_TR hf h
 | .a cs,v,hf,⟨vs,h1,h2⟩=>by
  refine⟨vs,h1,?_⟩;have:∀ (cs:List Tree) (vs:List Value),(∀ x∈cs,x.flat)->TRl w I cs vs->TRl w' I' cs vs:=by
   intro cs
   induction cs with
   |nil=>intro vs _ h;cases vs with
    |nil=>trivial
    |cons=>exact h.elim
   |cons x xs ih=>intro vs hf h;cases vs with
    |nil=>exact h.elim
    |cons v vs=>exact⟨Tree.flat_TR (hf x (by simp)) h.1,ih vs (fun y hy=>hf y (by simp[hy])) h.2⟩
  exact this cs vs.toList hf h2
theorem ORows.flat {β':Nat->Option Blk} {w':World} {I':Nat->Prop} (rows:List (List Tree)) (c:Array Value) (off sz:Nat) (hf:∀ r∈rows,∀ x∈r,Tree.flat x) (h:ORows P β w I (ay rows) c off sz):ORows P β' w' I' (ay rows) c off sz:=by
 rw[lS]at h ⊢;intro i r hr;obtain⟨h1,h2⟩:=h i r hr;refine⟨h1,?_⟩;rw[gG]at h2 ⊢;intro j x hx;obtain⟨v,g1,g2,g3⟩:=h2 j x hx;refine⟨v,g1,?_,g3⟩;simp only[ay,List.getElem?_map,Option.map_eq_some_iff]at hr;obtain⟨r',hr',rfl⟩:=hr;simp only[List.getElem?_map,Option.map_eq_some_iff]at hx;obtain⟨x',hx',rfl⟩:=hx;simp only[VR]at g2 ⊢;exact Tree.flat_TR (hf r' (List.mem_of_getElem? hr') x' (List.mem_of_getElem? hx')) g2
theorem TV.av_VR {x:TV} {v:Value} (h:TVR w I x v):VR P β w I x.av v:=by
 cases x with
 |s x=>simp only[TV.av,VR];exact h
 |a cs=>
  obtain⟨vs,rfl,h⟩:=h;simp only[TV.av,VR];refine⟨vs,rfl,?_⟩;have:∀ (cs:List Tree) (us:List Value),TRl w I cs us->VRl P β w I (cs.map AV.t) us:=by
   intro cs
   induction cs with
   |nil=>intro us h;cases us with
    |nil=>simp[VRl]
    |cons=>simp[TRl]at h
   |cons x xs ih=>intro us h;cases us with
    |nil=>simp[TRl]at h
    |cons y ys=>simp only[TRl]at h;simp only[map_cons,VRl,VR];exact⟨h.1,ih _ h.2⟩
  exact this cs vs.toList h
theorem Mem.fresh {i:Nat} {obj:Nat->Option aF} {F:Nat->Prop} {sz:Nat} {rows:List (List Tree)} {v:Value} (h:Mem P w0 O0 β I obj w) (hn:β i=none) (hlt:∀ k o b,obj k=some o->Lies β k b->¬ F b) (hle:∀ b,F b->O0.own b∨w0.heap.size<=b) (hf:Qf P F sz rows w I v):
 ∃ β',Step β I w i β' I w∧Mem P w0 O0 β' I (aL obj [(i,some ⟨sz,ay rows⟩)]) w∧VR P β' w I (.own i 0 rows.length) v:=by
 rcases hf with ⟨rfl,rfl⟩ |⟨b,c,e,cap,o,s,rfl,h1,h2,h3,h4,h5,h6,h7⟩
 ·obtain⟨hS,hM⟩:=Mem.addNil (i:=i) (o:=⟨sz,ay []⟩) h hn rfl;exact⟨_,hS,hM,by simp only[VR];exact .inl ⟨by simp[ins],trivial,trivial,rfl⟩⟩
 ·have hsl:s<=c.size:=by omega
  have hS:Step β I w i (ins β i (.at b sz ⟨c.size,s,hsl⟩)) I w:=⟨fun j hj=>by simp[ins,ownN.ne hj],iT hn,fun _ _=>rfl,fun _ h=>h⟩;refine⟨_,hS,?_,by simp only[VR];exact .inr ⟨b,sz,⟨c.size,s,hsl⟩,cap,o,by simp[ins],rfl,h4,by simpa using h5,fun hc=>by simpa using h7 hc⟩⟩;have hbl:b < w.heap.size:=(Array.getElem?_eq_some_iff.1 h3).1;constructor
  ·intro k o' hk;simp only[aL]at hk;split at hk
   ·injection hk with hk;subst hk;rename_i hki;exact⟨.at b sz ⟨c.size,s,hsl⟩,by simp[ins,hki],rfl,c,e,h3,rfl,ORows.mono (fun k B h=>by simp[nob]at h) (fun _ _=>rfl) (fun _ h=>h) _ _ _ _ h6⟩
   ·obtain⟨B,hB,hO⟩:=h.objs k o' hk;exact⟨B,iT hn _ _ hB,OR.mono hS.ext hS.same hS.inc (fun _ _=>rfl) hO⟩
  ·intro k k' o1 o2 B1 B2 b1 e1 e2 e3 e4 e5 e6;simp only[aL]at e1 e2;simp only[ins]at e3 e4;split at e3<;>split at e4
   ·rename_i p q;rw[p,q]
   ·rename_i p q;injection e3 with e3;subst e3;injection e5 with e5;subst e5;rw[if_neg q]at e2;exact (hlt k' o2 _ e2 ⟨_,e4,e6⟩ h1).elim
   ·rename_i p q;injection e4 with e4;subst e4;injection e6 with e6;subst e6;rw[if_neg p]at e1;exact (hlt k o1 _ e1 ⟨_,e3,e5⟩ h1).elim
   ·rename_i p q;rw[if_neg p]at e1;rw[if_neg q]at e2;exact h.injB k k' o1 o2 B1 B2 b1 e1 e2 e3 e4 e5 e6
  ·intro k o' B1 b1 e1 e2 e3;simp only[aL]at e1;simp only[ins]at e2;split at e2
   ·injection e2 with e2;subst e2;injection e3 with e3;subst e3;exact⟨h2,hbl,hle _ h1⟩
   ·rename_i p;rw[if_neg p]at e1;exact h.ownB k o' B1 b1 e1 e2 e3
  ·exact h.lt
  ·exact h.up
  ·exact h.keep
  ·exact h.le
  ·exact h.os
  ·exact h.tape
  ·exact h.output
  ·intro j C hj;exact iT hn _ _ (h.anch j C hj)
  ·exact h.vars
theorem Ko {i:Nat} {ids:List Nat} {F:Nat->Prop} {βc:Nat->Option Blk} {c:RC} {v:Value} (h:Mem P w0 O0 β I obj w) (hn:β (nid i)=none) (hlt:∀ k o b,obj k=some o->Lies β k b->¬ F b) (hle:∀ b,F b->O0.own b∨w0.heap.size<=b) (hbc:∀ j B,βc j=some B->∃ k,ids[j]? =some k∧β k=some B) (hc:RCR P F βc c w I v):
 ∃ β',Step β I w (nid i) β' I w∧Mem P w0 O0 β' I (aL obj (Co i ids c).2) w∧VR P β' w I (Co i ids c).1 v∧((Co i ids c).2=[]->β'=β):=by
 cases c with
 |d x=>exact⟨β,Step.refl ..,h,TV.av_VR hc,fun _=>rfl⟩
 |fresh sz rows=>
  obtain⟨β',h1,h2,h3⟩:=Mem.fresh (i:=nid i) h hn hlt hle hc;exact⟨β',h1,h2,by simpa[Co,ay]using h3,fun h=>by simp[Co]at h⟩
 |whole j len=>
  refine⟨β,Step.refl ..,h,?_,fun _=>rfl⟩;have hc:VR P βc w I (.own j 0 len) v:=hc;simp only[VR]at hc;have key:∀ B,βc j=some B->∃ k,ids[j]? =some k∧β k=some B:=hbc j;simp only[Co];rcases hc with ⟨g1,g2⟩ |⟨b,sz,n,cap,o,g1,g2⟩
  ·obtain⟨k,e1,e2⟩:=key _ g1;simp only[e1,VR];exact .inl ⟨e2,g2⟩
  ·obtain⟨k,e1,e2⟩:=key _ g1;simp only[e1,VR];exact .inr ⟨b,sz,n,cap,o,e2,g2⟩
theorem Kq {i:Nat} {ids:List Nat} {F:Nat->Prop} {βc:Nat->Option Blk}:∀ (cs:List RC) (vs:List Value) (p:List AV×List (Nat×Option aF)),Mem P w0 O0 β I obj w->β (nid i)=none->(∀ k o b,obj k=some o->Lies β k b->¬ F b)->(∀ b,F b->O0.own b∨w0.heap.size<=b)->(∀ j B,βc j=some B->∃ k,ids[j]? =some k∧β k=some B)->
 Es i ids cs=some p->J9 P F βc cs w I vs->∃ β',Step β I w (nid i) β' I w∧Mem P w0 O0 β' I (aL obj p.2) w∧VRl P β' w I p.1 vs∧(p.2=[]->β'=β)
 |[],[],p,h,_,_,_,_,hp,_=>by simp only[Es,Option.some.injEq]at hp;subst hp;exact⟨β,Step.refl ..,h,by simp[VRl],fun _=>rfl⟩
 |c::cs,v::vs,p,h,hn,hlt,hle,hbc,hp,hr=>by
  simp only[J9]at hr;simp only[Es]at hp;cases hq:Es i ids cs with
  |none=>simp[hq]at hp
  |some q=>
   simp only[hq,bind_some]at hp;split at hp
   ·rename_i hem;simp only[Option.some.injEq]at hp;subst hp;obtain⟨β1,g1,g2,g3,g4⟩:=Ko (i:=i) h hn hlt hle hbc hr.1;obtain⟨β2,k1,k2,k3,k4⟩:=Kq cs vs q h hn hlt hle hbc hq hr.2;have hem':(Co i ids c).2=[]∨q.2=[]:=(by simpa using hem);rcases hem' with hem |hem
    ·have:=g4 hem;subst this;refine⟨β2,k1,by simpa[hem]using k2,?_,fun h0=>k4 (by simpa[hem]using h0)⟩;simp only[VRl];exact⟨VR.mono k1.ext k1.same k1.inc _ _ g3,k3⟩
    ·have:=k4 hem;subst this;refine⟨β1,g1,by simpa[hem]using g2,?_,fun h0=>g4 (by simpa[hem]using h0)⟩;simp only[VRl];exact⟨g3,VRl.mono g1.ext g1.same g1.inc _ _ k3⟩
   ·cases hp
 |[],_::_,_,_,_,_,_,_,_,hr=>by simp[J9]at hr
 |_::_,[],_,_,_,_,_,_,_,hr=>by simp[J9]at hr
theorem Gp {i:Nat} {ids:List Nat} {F:Nat->Prop} {βc:Nat->Option Blk} {rv:RV} {v:Value} {p:AV×List (Nat×Option aF)} (h:Mem P w0 O0 β I obj w) (hn:β (nid i)=none) (hlt:∀ k o b,obj k=some o->Lies β k b->¬ F b) (hle:∀ b,F b->O0.own b∨w0.heap.size<=b) (hbc:∀ j B,βc j=some B->∃ k,ids[j]? =some k∧β k=some B)
 (hp:imp i ids rv=some p) (hr:RVR P F βc rv w I v):∃ β',Step β I w (nid i) β' I w∧Mem P w0 O0 β' I (aL obj p.2) w∧VR P β' w I p.1 v:=by
 cases rv with
 |one c=>
  simp only[imp,Option.some.injEq]at hp;subst hp;obtain⟨β',h1,h2,h3,_⟩:=Ko (i:=i) h hn hlt hle hbc hr;exact⟨β',h1,h2,h3⟩
 |tup cs=>
  simp only[imp]at hp;cases hq:Es i ids cs with
  |none=>simp[hq]at hp
  |some q=>
   simp only[hq,bind_some,Option.some.injEq]at hp;subst hp;obtain⟨vs,rfl,hvs⟩:=hr;obtain⟨β',h1,h2,h3,_⟩:=Kq (i:=i) cs vs.toList q h hn hlt hle hbc hq hvs;exact⟨β',h1,h2,by simp only[VR];exact⟨vs,rfl,h3⟩⟩
theorem lT (obj:Nat->Option aF):∀ (a b:List (Nat×Option aF)) (k:Nat),aL obj (a++b) k=aL (aL obj b) a k
 |[],_,_=>rfl
 |(j,o)::a,b,k=>by simp only[cons_append,aL,lT obj a b k]
theorem rH (obj:Nat->Option aF):∀ (ids:List Nat) (k:Nat),aL obj (ids.map fun k=>(k,none)) k=if k∈ids then none else obj k
 |[],k=>by simp[aL]
 |j::ids,k=>by
  simp only[map_cons,aL,rH obj ids k,mem_cons];by_cases h:k=j<;>simp[h]
end
section
variable {P:Program} {T:Tab} {w0:World} {O0:Was} {β:Nat->Option Blk} {I:Nat->Prop} {obj:Nat->Option aF} {w:World} {i:Nat}
theorem RVR.flat {F:Nat->Prop} {βc:Nat->Option Blk} {w':World} {I' I'':Nat->Prop} {rv:RV} {v:Value} (hf:rv.flat) (hI:∀ b,I'' b->I' b) (h:RVR P F βc rv w' I' v):RVR P F βc rv w' I'' v:=by
 have hc:∀ (c:RC) (v:Value),c.flat->RCR P F βc c w' I' v->RCR P F βc c w' I'' v:=by
  intro c v hf h;cases c with
  |d x=>exact TV.flat_TVR hf h
  |fresh sz rows=>
   rcases h with h |⟨b,c,e,cap,o,s,h1,h2,h3,h4,h5,h6,h7,h8⟩
   ·exact .inl h
   ·exact .inr ⟨b,c,e,cap,o,s,h1,h2,fun hb=>h3 (hI b hb),h4,h5,h6,ORows.flat rows c s sz hf h7,h8⟩
  |whole j len=>have h:VR P βc w' I' (.own j 0 len) v:=h;show VR P βc w' I'' (.own j 0 len) v;simp only[VR]at h ⊢;exact h
 cases rv with
 |one c=>exact hc c v hf h
 |tup cs=>
  obtain⟨vs,rfl,h⟩:=h;refine⟨vs,rfl,?_⟩;have:∀ (cs:List RC) (vs:List Value),(∀ c∈cs,c.flat)->J9 P F βc cs w' I' vs->J9 P F βc cs w' I'' vs:=by
   intro cs
   induction cs with
   |nil=>intro vs _ h;cases vs with
    |nil=>trivial
    |cons=>exact h.elim
   |cons c cs ih=>intro vs hf h;cases vs with
    |nil=>exact h.elim
    |cons v vs=>exact⟨hc c v (hf c (by simp)) h.1,ih vs (fun y hy=>hf y (by simp[hy])) h.2⟩
  exact this cs vs.toList hf h
theorem Kr (h:Mem P w0 O0 β I obj w) (hn:β (nid i)=none) {ids:List Nat} {rv:RV} {p:AV×List (Nat×Option aF)} {keep:Bool} (hp:imp i [] rv=some p) (hk:keep=true->rv.flat)
 {w':World} {I1:Nat->Prop} {v:Value} (hb:Below w.heap.size w w') (h1:∀ b,Lent β obj ids I b->I1 b) (h2:∀ b,I1 b->b < w'.heap.size) (h3:∀ b,I1 b->Lent β obj ids I b∨w.heap.size<=b) (hr:RVR P (abb w) nob rv w' I1 v):
 ∃ β' I',Step β I w (nid i) β' I' w'∧Mem P w0 O0 β' I' (aL obj (p.2++if keep then []else ids.map (fun k=>(k,none)))) w'∧VR P β' w' I' p.1 v:=by
 have hlt:∀ (obj':Nat->Option aF),(∀ k o,obj' k=some o->obj k=some o)->∀ k o b,obj' k=some o->Lies β k b->¬ abb w b:=fun obj' hs k o b e1 e2 hb=>Nat.lt_irrefl _ (Nat.lt_of_lt_of_le (h.ownL k o b (hs k o e1) e2).2.1 hb);have hnew:∀ b,abb w b->O0.own b∨w0.heap.size<=b:=fun b hb=> .inr (Nat.le_trans h.le hb);have hup:∀ b,I1 b->O0.imm b∨O0.own b∨w0.heap.size<=b:=fun b hb'=>by
  rcases h3 b hb' with (h5 |⟨k',o',s',n',g1,g2,g3⟩) |h5
  ·exact h.up b h5
  ·exact .inr (h.own k' o' b s' n' g2 g3).2.2
  ·exact .inr (.inr (Nat.le_trans h.le h5))
 cases keep with
 |true=>
  obtain⟨hS,hM⟩:=h.below (I':=fun b=>I1 b∧(I b∨w.heap.size<=b)) hb (fun b hb'=>⟨h1 b (.inl hb'),.inl hb'⟩) (fun b hb'=>h2 b hb'.1) (fun b k o B hb' e1 e2 e3=>by
   obtain⟨a1,a2,_⟩:=h.ownB k o B b e1 e2 e3;rcases hb'.2 with h5 |h5
   ·exact a1 h5
   ·omega) (fun b hb'=>hup b hb'.1)
  obtain⟨β',k1,k2,k3⟩:=Gp hM hn (hlt obj (fun _ _ h=>h)) hnew (fun _ _ h=>by cases h) hp (RVR.flat (hk rfl) (fun b hb=>hb.1) hr);refine⟨β',_,⟨k1.other,k1.ext,hS,fun b hb'=>⟨h1 b (.inl hb'),.inl hb'⟩⟩,?_,k3⟩;simpa using k2
 |false=>
  have hsub:∀ k o,aL obj (ids.map fun k=>(k,none)) k=some o->obj k=some o∧k∉ids:=by
   intro k o hk;rw[rH]at hk;split at hk
   ·cases hk
   ·exact⟨hk,‹_›⟩
  have hd:=h.drop (aL obj (ids.map fun k=>(k,none))) (fun k o hk=>(hsub k o hk).1);obtain⟨hS,hM⟩:=hd.below (I':=I1) hb (fun b hb'=>h1 b (.inl hb')) h2 (fun b k o B hb' e1 e2 e3=>by
   obtain⟨f1,f2⟩:=hsub k o e1;obtain⟨a1,a2,_⟩:=h.ownB k o B b f1 e2 e3;rcases h3 b hb' with (h5 |⟨k',o',s',n',g1,g2,g3⟩) |h5
   ·exact a1 h5
   ·have:=h.injL k k' o o' b f1 g2 ⟨B,e2,e3⟩ (.at g3);subst this;exact f2 g1
   ·omega) hup
  obtain⟨β',k1,k2,k3⟩:=Gp hM hn (hlt _ (fun k o hk=>(hsub k o hk).1)) hnew (fun _ _ h=>by cases h) hp hr;refine⟨β',I1,⟨k1.other,k1.ext,hS,fun b hb'=>h1 b (.inl hb')⟩,?_,k3⟩;simp only[Bool.false_eq_true,if_false];have e:aL obj (p.2++ids.map fun k=>(k,none))=aL (aL obj (ids.map fun k=>(k,none))) p.2:=funext fun k=>lT obj _ _ k;rw[e];exact k2
theorem Et (h:Mem P w0 O0 β I obj w) (ids:List Nat):∀ b,Lent β obj ids I b->b < w.heap.size:=by
 intro b hb;rcases hb with hb |⟨k,o,s,n,_,h2,h3⟩
 ·exact h.lt b hb
 ·exact (h.own k o b s n h2 h3).2.1
theorem Nz (h:Mem P w0 O0 β I obj w) (hn:β (nid i)=none) {f:AV} {args:List AV} {orc:Orc} {get:Nat->Option aF} {out:Out} (hg:∀ k o,get k=some o->obj k=some o)
 {fv:Value} {vs:Array Value} {ops:Array Operand} {fo:Operand} {r:Operand->Value} (ha:qO P i f args orc get=some out) (hob:out.ob) (hf:VR P β w I f fv) (hv:VRl P β w I args vs.toList) (hfo:r fo=fv) (hops:vs=ops.map r)
 {dst:Option Tmp} {pos:String} {after:Array Edge} {guard:Option (Nat×Bool)} {ty:TypeId} {tys:Array TypeId}:
 uE P w0 O0 β I obj w i out ((execOp r ⟨dst,.call { callee:= .value fo,args:=ops,argTypes:=tys },ty,pos,after,guard⟩).run P w):=by
 have enter : ∀ (F : FuncId) (first caps : Array Value) (args' : Array Value), (∃ fn, P.funcs[F]? = some fn ∧ fn.body.isSome = true ∧ (fn.name == "runtime.NumGoroutine") = false) -> fv = .func (.func F) first caps -> args' = first ++ vs ++ caps ->
  (execOp r ⟨dst,.call { callee:= .value fo,args:=ops,argTypes:=tys },ty,pos,after,guard⟩).run P w= .ok (.enter F args') w:=by
  rintro F first caps args' ⟨fn,e1,e2,e3⟩ e4 rfl
  have hb:¬ fn.body=none:=by cases hh:fn.body<;>simp[hh]at e2 ⊢
  have e3' : ¬ fn.name = "runtime.NumGoroutine" := by simpa using e3
  simp[execOp,resolve,hfo,e4,<- hops,Deferred.ofValue,invoke,callFunc,e1,e3',hb]
 unfold qO at ha;split at ha
 ·rename_i F first caps hs rv keep
  cases hp:imp i [] rv with
  |none=>simp[hp]at ha
  |some p=>
   cases hq:iR P get (first++args++caps) hs with
   |none=>simp only[hp,hq,bind_some,Option.bind_none,reduceCtorEq]at ha
   |some q=>
   simp only[hp,hq,bind_some]at ha;simp only[VR]at hf;obtain⟨fs,cs,rfl,hf1,hf2⟩:=hf
   have fin:∀ (keep:Bool),BorL P get (first++args++caps) q.1->FnP P F q.1 rv->(keep=true->rv.flat)->
    out=⟨p.1,p.2++(if keep then []else (bH (first++args++caps)).map (fun k=>(k,none))),out.obs⟩->uE P w0 O0 β I obj w i out ((execOp r ⟨dst,.call { callee:= .value fo,args:=ops,argTypes:=tys },ty,pos,after,guard⟩).run P w):=by
    intro keep hb hF hk hout;obtain⟨hcal,hcon⟩:=hF;have hall:VRl P β w I (first++args++caps) (fs++vs++cs).toList:=by
     simp only[Array.toList_append];exact VRl.append _ _ _ _ (VRl.append _ _ _ _ hf1 hv) hf2
    have hlent:=BorL.sound h (bH (first++args++caps)) _ _ _ (fun k hk=>hk) (BorL.weaken hg _ _ hb) hall;refine⟨F,fs++vs++cs,enter F fs cs _ hcal rfl rfl,(hcon w _ _ (Et h _) (h.vars.mono (fun _ _=>rfl) (fun b hb=> .inl hb)) hlent).mono ?_⟩;rintro e w' ⟨v',I1,rfl,hbel,g1,g2,g3,g4⟩;obtain⟨β',I',k1,k2,k3⟩:=Kr (keep:=keep) h hn hp hk hbel g1 g2 g3 g4;rw[hout];exact⟨v',β',I',rfl,k1,k2,k3⟩
   cases keep with
   |true=>
    simp only[if_true,Option.some.injEq]at ha;subst ha;have hob:=kS _ hob;exact fin true (fB _ _ _ hq fun x hx=>hob x (by simp[hx])) (hob (FnP P F q.1 rv) (by simp)) (fun _=>hob rv.flat (by simp)) (by simp)
   |false=>
    simp only[Bool.false_eq_true,if_false,Option.some.injEq]at ha;subst ha;have hob:=kS _ hob;exact fin false (fB _ _ _ hq fun x hx=>hob x (by simp[hx])) (hob (FnP P F q.1 rv) (by simp)) (fun h=>by cases h) (by simp)
 ·rename_i φ hs targs rr keep;cases hq:iR P get args hs with
  |none=>simp[hq]at ha
  |some q=>
  simp only[hq,bind_some]at ha;simp only[VR]at hf;obtain⟨F,fs,cs,rfl,hF1,hF2,hF3⟩:=hf;obtain⟨fn,hfn⟩:=Option.isSome_iff_exists.1 hF2
  have fin:∀ (keep:Bool),BorL P get args (targs.map TV.av)->φ targs rr->(keep=true->rr.flat)->
   out=⟨rr.av,[]++(if keep then []else (bH args).map (fun k=>(k,none))),out.obs⟩->uE P w0 O0 β I obj w i out ((execOp r ⟨dst,.call { callee:= .value fo,args:=ops,argTypes:=tys },ty,pos,after,guard⟩).run P w):=by
   intro keep hb hφ hk hout;have hlent:=BorL.sound h (bH args) _ _ _ (fun k hk=>hk) (BorL.weaken hg _ _ hb) hv;have htv:∀ (xs:List TV) (us:List Value),VRl P nob w (Lent β obj (bH args) I) (xs.map TV.av) us->TVRs w (Lent β obj (bH args) I) xs us:=by
    intro xs
    induction xs with
    |nil=>intro us h;cases us with
     |nil=>trivial
     |cons=>simp[VRl]at h
    |cons x xs ih=>intro us h;cases us with
     |nil=>simp[VRl]at h
     |cons u us=>
      simp only[map_cons,VRl]at h;refine⟨?_,ih us h.2⟩;cases x with
      |s x=>simpa[TV.av,VR,TVR]using h.1
      |a cs=>
       simp only[TV.av,VR]at h;obtain⟨⟨vs',rfl,h1⟩,_⟩:=h;refine⟨vs',rfl,?_⟩;have:∀ (cs:List Tree) (us:List Value),VRl P nob w (Lent β obj (bH args) I) (cs.map AV.t) us->TRl w (Lent β obj (bH args) I) cs us:=by
        intro cs
        induction cs with
        |nil=>intro us h;cases us with
         |nil=>trivial
         |cons=>simp[VRl]at h
        |cons c cs ih=>intro us h;cases us with
         |nil=>simp[VRl]at h
         |cons u us=>simp only[map_cons,VRl,VR]at h;exact⟨h.1,ih us h.2⟩
       exact this cs _ h1
   refine⟨F,fs++vs++cs,enter F fs cs _ ⟨fn,hfn,(hF1 fn hfn).1,(hF1 fn hfn).2⟩ rfl rfl,(hF3 w _ targs vs rr (fun b hb=>Or.inl hb) (fun _ _=>rfl) (Et h _) hφ (htv _ _ hlent)).mono ?_⟩;rintro e w' ⟨v',I1,rfl,hbel,g1,g2,g3,g4⟩;obtain⟨β',I',k1,k2,k3⟩:=Kr (i:=i) (rv:= .one (.d rr)) (p:=(rr.av,[])) (keep:=keep) h hn rfl hk hbel g1 g2 g3 g4;rw[hout];exact⟨v',β',I',rfl,k1,k2,k3⟩
  cases keep with
  |true=>
   simp only[if_true,Option.some.injEq]at ha;subst ha;have hob:=kS _ hob;have e:q.1=targs.map TV.av:=hob _ (by simp);exact fin true (e ▸ fB _ _ _ hq fun x hx=>hob x (by simp[hx])) (hob (φ targs rr) (by simp)) (fun _=>hob rr.flat (by simp)) (by simp)
  |false=>
   simp only[Bool.false_eq_true,if_false,Option.some.injEq]at ha;subst ha;have hob:=kS _ hob;have e:q.1=targs.map TV.av:=hob _ (by simp);exact fin false (e ▸ fB _ _ _ hq fun x hx=>hob x (by simp[hx])) (hob (φ targs rr) (by simp)) (fun h=>by cases h) (by simp)
 ·cases ha
end
abbrev bJ:=Nat×List (List Tree)
def aob (p:bJ):aF:=⟨p.1,ay p.2⟩
def osf (os:List bJ) (k:Nat):Option aF:=(os[k]?).map aob
def Cq (os:List (Option bJ)) (k:Nat):Option aF:=((os[k]?).join).map aob
def Kt (β:Nat->Option Blk) (b:Nat):Prop:=∃ j,Lies β j b
def mg (β:Nat->Option Blk) (I:Nat->Prop):Was:=⟨Kt β,I,fun j=>if j < 1000 then β j else none,fun j B h=>by
 split at h
 ·assumption
 ·cases h⟩
def R3 (w:World) (β:Nat->Option Blk) (os':List (Option bJ)) (b:Nat):Prop:=(Kt β b∨w.heap.size<=b)∧∀ k o,Cq os' k=some o->¬ Lies β k b
def acn (P:Program) (w:World) (β:Nat->Option Blk) (I:Nat->Prop) (os':List (Option bJ)) (rv:RV) (e:Ending) (w':World):Prop:=
 ∃ v I',e= .returned v∧Mem P w (mg β I) β I' (Cq os') w'∧(∀ b,I b->I' b)∧RVR P (R3 w β os') β rv w' I' v
def FnW (P:Program) (f:FuncId) (args:List AV) (os:List bJ) (os':List (Option bJ)) (rv:RV):Prop:=
 eO P f∧∀ (w:World) (β:Nat->Option Blk) (I:Nat->Prop) (vs:Array Value),(∀ k,os.length<=k->β k=none)->Mem P w (mg β I) β I (osf os) w->VRl P β w I args vs.toList->Calls P f vs w (acn P w β I os' rv)
def βc (ids:List Nat) (β:Nat->Option Blk) (j:Nat):Option Blk:=(ids[j]?).bind β
section
variable (P:Program) (get:Nat->Option aF) (ids:List Nat)
mutual
def lH:AV->List LH->Option (AV×List LH×List Prop)
 | .own k off len,.mut j::hs=>if ids[j]? =some k then some (.own j off len,hs,[])else none
 | .ptr k row off,.mut j::hs=>if ids[j]? =some k then some (.ptr j row off,hs,[])else none
 | .mp k,.mut j::hs=>if ids[j]? =some k then some (.mp j,hs,[])else none
 | .agg cs,.agw::hs=>(iG cs hs).bind fun p=>some (.agg p.1,p.2.1,p.2.2)
 | .agg cs,.agd::hs=>if (bH cs).all (fun k=>!ids.contains k)then jJ P get (.agg cs) hs else none
 | .fn F first caps,.fnw::hs=>(iG first hs).bind fun p=>(iG caps p.2.1).bind fun q=>some (.fn F p.1 q.1,q.2.1,p.2.2++q.2.2)
 |x,hs=>if (refs x).all (fun k=>!ids.contains k)then jJ P get x hs else none
def iG:List AV->List LH->Option (List AV×List LH×List Prop)
 |[],hs=>some ([],hs,[])
 |x::xs,hs=>(lH x hs).bind fun p=>(iG xs p.2.1).bind fun q=>some (p.1::q.1,q.2.1,p.2.2++q.2.2)
end
def xN:List (List AV)->List (List LH)->Option (List (List AV)×List Prop)
 |[],[]=>some ([],[])
 |r::rs,h::hs=>(iG P get ids r h).bind fun p=>(xN rs hs).bind fun q=>some (p.1::q.1,p.2.2++q.2)
 |_,_=>none
def BorW0 (x y:AV):Prop:=
 (∃ j k off len,ids[j]? =some k∧x= .own k off len∧y= .own j off len)∨(∃ j k row off,ids[j]? =some k∧x= .ptr k row off∧y= .ptr j row off)∨(∃ j k,ids[j]? =some k∧x= .mp k∧y= .mp j)∨((∀ k∈refs x,k∉ids)∧Bor P get x y)
mutual
def BorW1:AV->AV->Prop
 | .fn F f1 c1,.fn G f2 c2=>(F=G∧BorLW f1 f2∧BorLW c1 c2)∨BorW0 P get ids (.fn F f1 c1) (.fn G f2 c2)
 | .agg c1,.agg c2=>BorLW c1 c2∨BorW0 P get ids (.agg c1) (.agg c2)
 |x,y=>BorW0 P get ids x y
def BorLW:List AV->List AV->Prop
 |[],[]=>True
 |x::xs,y::ys=>BorW1 x y∧BorLW xs ys
 |_,_=>False
end
theorem BorW1.base {x y:AV} (h:BorW0 P get ids x y):BorW1 P get ids x y:=by cases x<;>cases y<;>simp only[BorW1]<;>first |exact h |exact .inr h
end
def uZ (get:Nat->Option aF):List Nat->List bJ->Option (List Prop)
 |[],[]=>some []
 |k::ids,p::os=>(get k).bind fun o=>(uZ get ids os).bind fun l=>some ((o.sz=p.1∧bA (o.rows.take p.2.length)=ay p.2)::l)
 |_,_=>none
def u6:List Nat->List (Option bJ)->List (Nat×Option aF)
 |k::ids,p::os=>(k,p.map aob)::u6 ids os
 |_,_=>[]
def zZ (xs:List AV) (ids:List Nat):List Nat:=(bH xs).filter fun k=>!ids.contains k
def Ku (os':List (Option bJ)):Prop:=∀ p,some p∈os'->∀ r∈p.2,∀ x∈r,Tree.flat x
def z8 (P:Program) (i:Nat) (f:AV) (args:List AV) (orc:Orc) (get:Nat->Option aF):Option Out:=
 match f,orc with
 | .fn F first caps,.callw ids os os' hs rv keep=>if ids.Nodup∧os'.length=ids.length then (imp i ids rv).bind fun p=>(uZ get ids os).bind fun mo=>(iG P get ids (first++args++caps) hs).bind fun q=>
  if keep then some ⟨p.1,p.2++u6 ids os',q.2.2++mo++[FnW P F q.1 os os' rv,rv.flat,Ku os']⟩
  else some ⟨p.1,p.2++(u6 ids os'++(zZ (first++args++caps) ids).map fun k=>(k,none)),q.2.2++mo++[FnW P F q.1 os os' rv]⟩
  else none
 |_,_=>none
def jM (P:Program) (i:Nat) (f:AV) (args:List AV) (orc:Orc) (get:Nat->Option aF):Option Out:=
 match orc with
 | .callw .. =>z8 P i f args orc get
 |_=>qO P i f args orc get
section
variable {P:Program} {T:Tab} {w0:World} {O0:Was} {β:Nat->Option Blk} {I:Nat->Prop} {obj:Nat->Option aF} {w:World} {i:Nat}
theorem Eu {ids:List Nat} {j:Nat} {B:Blk} (h:βc ids β j=some B):∃ k,ids[j]? =some k∧β k=some B:=by simpa[βc,ai]using h
theorem ORows.dat {β':Nat->Option Blk} {I':Nat->Prop} (hI:∀ b,I b->I' b) (rows:List (List Tree)) (c:Array Value) (off sz:Nat) (h:ORows P β w I (ay rows) c off sz):ORows P β' w I' (ay rows) c off sz:=by
 rw[lS]at h ⊢;intro i r hr;obtain⟨h1,h2⟩:=h i r hr;refine⟨h1,?_⟩;rw[gG]at h2 ⊢;intro j x hx;obtain⟨v,g1,g2,g3⟩:=h2 j x hx;refine⟨v,g1,?_,g3⟩;simp only[ay,List.getElem?_map,Option.map_eq_some_iff]at hr;obtain⟨r',hr',rfl⟩:=hr;simp only[List.getElem?_map,Option.map_eq_some_iff]at hx;obtain⟨x',hx',rfl⟩:=hx;simp only[VR]at g2 ⊢;exact TR.mono (fun _ _=>rfl) hI _ _ g2
theorem VRl.datL {β':Nat->Option Blk} {I':Nat->Prop} (hI:∀ b,I b->I' b):∀ (r:List Tree) (vs:List Value),VRl P β w I (r.map AV.t) vs->VRl P β' w I' (r.map AV.t) vs
 |[],[],_=>by simp[VRl]
 |x::xs,v::vs,h=>by
  simp only[map_cons,VRl,VR]at h ⊢;exact⟨TR.mono (fun _ _=>rfl) hI _ _ h.1,VRl.datL hI xs vs h.2⟩
 |[],_::_,h=>by simp[VRl]at h
 |_::_,[],h=>by simp[VRl]at h
theorem MRows.dat {β':Nat->Option Blk} {I':Nat->Prop} (hI:∀ b,I b->I' b):∀ (rs:List (List Tree)) (es:List MapEntry),MRows P β w I (ay rs) es->MRows P β' w I' (ay rs) es
 |[],[],_=>trivial
 |r::rs,_::es,⟨h1,h4⟩=>⟨VRl.datL hI r _ h1,MRows.dat hI rs es h4⟩
 |[],_::_,h=>h.elim
 |_::_,[],h=>h.elim
theorem VRl.flatL {β':Nat->Option Blk} {I':Nat->Prop}:∀ (r:List Tree) (vs:List Value),(∀ x∈r,Tree.flat x)->VRl P β w I (r.map AV.t) vs->VRl P β' w I' (r.map AV.t) vs
 |[],[],_,_=>by simp[VRl]
 |x::xs,v::vs,hf,h=>by
  simp only[map_cons,VRl,VR]at h ⊢;exact⟨Tree.flat_TR (hf x (by simp)) h.1,VRl.flatL xs vs (fun y hy=>hf y (by simp[hy])) h.2⟩
 |[],_::_,_,h=>by simp[VRl]at h
 |_::_,[],_,h=>by simp[VRl]at h
theorem MRows.flat {β':Nat->Option Blk} {I':Nat->Prop}:∀ {rs:List (List Tree)} (_:∀ r∈rs,∀ x∈r,Tree.flat x) (es:List MapEntry),MRows P β w I (ay rs) es->MRows P β' w I' (ay rs) es
 |[],_,[],_=>trivial
 |r::rs,hf,_::es,⟨h1,h4⟩=>⟨VRl.flatL r _ (hf r (by simp)) h1,MRows.flat (fun r' hr=>hf r' (by simp[hr])) es h4⟩
 |[],_,_::_,h=>h.elim
 |_::_,_,[],h=>h.elim
theorem OR.part {o:aF} {p:bJ} {b:Nat} (g4:o.sz=p.1) (g5:bA (o.rows.take p.2.length)=ay p.2) (h:OR P β w I o (.mp b)):OR P β w I (aob p) (.mp b):=by
 obtain⟨es,cl,h1,hle,h2,h3⟩:=h;have hl:=congrArg List.length g5;simp only[bA,ay,List.length_map,length_take]at hl;refine⟨es,cl,h1,by simp only[aob,ay,List.length_map];omega,fun e=>?_,h3⟩;have e':p.1=p.2.length:=by simpa[aob,ay]using e
 have:=MRows.wk _ _ (h2 (by omega));rw[List.take_of_length_le (by omega)]at g5;show MRows P β w I (ay p.2) es.toList;rw[<- g5];exact this
theorem OR.dat {β':Nat->Option Blk} {I':Nat->Prop} (hI:∀ b,I b->I' b) {p:bJ} {B:Blk} (h:OR P β w I (aob p) B):OR P β' w I' (aob p) B:=by
 cases B with
 |none=>exact h
 | «at» b s n=>
  obtain⟨h1,c,e,h2,h3,h4⟩:=h;exact⟨h1,c,e,h2,h3,ORows.dat hI _ _ _ _ h4⟩
 |mp b=>
  obtain⟨es,cl,h1,hle,h2,h3⟩:=h;exact⟨es,cl,h1,hle,fun e=>MRows.dat hI _ _ (h2 e),h3⟩
theorem OR.flat {β':Nat->Option Blk} {I':Nat->Prop} {p:bJ} {B:Blk} (hf:∀ r∈p.2,∀ x∈r,Tree.flat x) (h:OR P β w I (aob p) B):OR P β' w I' (aob p) B:=by
 cases B with
 |none=>exact h
 | «at» b s n=>
  obtain⟨h1,c,e,h2,h3,h4⟩:=h;exact⟨h1,c,e,h2,h3,ORows.flat _ _ _ _ hf h4⟩
 |mp b=>
  obtain⟨es,cl,h1,hle,h2,h3⟩:=h;exact⟨es,cl,h1,hle,fun e=>MRows.flat hf _ (h2 e),h3⟩
theorem Ik {get:Nat->Option aF}:∀ {ids:List Nat} {os:List bJ} {l:List Prop},uZ get ids os=some l->(∀ q∈l,q)->ids.length=os.length∧∀ (j:Nat) k p,ids[j]? =some k->os[j]? =some p->∃ o,get k=some o∧o.sz=p.1∧bA (o.rows.take p.2.length)=ay p.2
 |[],[],_,_,_=>⟨rfl,fun j k p h=>by simp at h⟩
 |k::ids,p::os,l,h,hq=>by
  simp only[uZ,ai,Option.some.injEq]at h;obtain⟨o,h1,l',h2,rfl⟩:=h;obtain⟨h3,h4⟩:=Ik h2 (fun q hq'=>hq q (by simp[hq']));refine⟨by simp[h3],fun j k' p' hj hj'=>?_⟩;cases j with
  |zero=>
   simp only[List.getElem?_cons_zero,Option.some.injEq]at hj hj';subst hj;subst hj';exact⟨o,h1,hq _ (by simp)⟩
  |succ j=>exact h4 j k' p' (by simpa using hj) (by simpa using hj')
 |[],_::_,_,h,_=>by simp[uZ]at h
 |_::_,[],_,h,_=>by simp[uZ]at h
theorem X6 {ids:List Nat}:∀ {os':List (Option bJ)} {g:List (Nat×Option aF)} {k:Nat},k∉ids->aL obj (u6 ids os'++g) k=aL obj g k:=by
 induction ids with
 |nil=>intro os' g k _;rfl
 |cons j ids ih=>
  intro os' g k hk;cases os' with
  |nil=>rfl
  |cons p os'=>
   simp only[mem_cons,not_or]at hk;simp only[u6,cons_append,aL,if_neg hk.1,ih hk.2]
theorem OE:∀ {ids:List Nat} {os':List (Option bJ)} {g:List (Nat×Option aF)} {j k:Nat},ids.Nodup->os'.length=ids.length->ids[j]? =some k->aL obj (u6 ids os'++g) k=Cq os' j
 |[],_,_,_,_,_,_,h=>by simp at h
 |i::ids,[],_,_,_,_,hl,_=>by simp at hl
 |i::ids,p::os',g,j,k,hn,hl,h=>by
  simp only[List.nodup_cons]at hn;cases j with
  |zero=>
   simp only[List.getElem?_cons_zero,Option.some.injEq]at h;subst h;simp[u6,aL,Cq]
  |succ j=>
   simp only[List.getElem?_cons_succ]at h;have hne:k≠i:=fun e=>hn.1 (e ▸ List.mem_of_getElem? h);simp only[u6,cons_append,aL,if_neg hne,OE hn.2 (by simpa using hl) h];simp[Cq]
theorem Gq:∀ {ids:List Nat},ids.Nodup->∀ {j j' k:Nat},ids[j]? =some k->ids[j']? =some k->j=j'
 |[],_,_,_,_,h,_=>by simp at h
 |i::ids,hn,j,j',k,h,h'=>by
  simp only[List.nodup_cons]at hn;cases j with
  |zero=>
   cases j' with
   |zero=>rfl
   |succ j'=>
    simp only[List.getElem?_cons_zero,Option.some.injEq,List.getElem?_cons_succ]at h h';exact (hn.1 (h ▸ List.mem_of_getElem? h')).elim
  |succ j=>
   cases j' with
   |zero=>
    simp only[List.getElem?_cons_zero,Option.some.injEq,List.getElem?_cons_succ]at h h';exact (hn.1 (h' ▸ List.mem_of_getElem? h)).elim
   |succ j'=>exact congrArg (· +1) (Gq hn.2 (k:=k) (by simpa using h) (by simpa using h'))
theorem Mem.handed (h:Mem P w0 O0 β I obj w) {ids lids:List Nat} {os:List bJ} (hnd:ids.Nodup) (hlen:ids.length=os.length)
 (hm:∀ (j:Nat) k p,ids[j]? =some k->os[j]? =some p->∃ o,obj k=some o∧o.sz=p.1∧bA (o.rows.take p.2.length)=ay p.2) (hdis:∀ k∈lids,k∉ids):
 Mem P w (mg (βc ids β) (Lent β obj lids I)) (βc ids β) (Lent β obj lids I) (osf os) w:=by
 have look:∀ j o',osf os j=some o'->∃ k p o,ids[j]? =some k∧os[j]? =some p∧o'=aob p∧obj k=some o∧o.sz=p.1∧bA (o.rows.take p.2.length)=ay p.2:=by
  intro j o' hj;simp only[osf,Option.map_eq_some_iff]at hj;obtain⟨p,hp,rfl⟩:=hj;have hjl:j < ids.length:=by rw[hlen];exact (List.getElem?_eq_some_iff.1 hp).1
  obtain⟨o,g⟩:=hm j _ p (List.getElem?_eq_getElem hjl) hp;exact⟨_,p,o,List.getElem?_eq_getElem hjl,hp,rfl,g⟩
 have hb0:∀ j k,ids[j]? =some k->βc ids β j=β k:=fun j k hk=>by simp[βc,hk]
 constructor
 ·intro j o' hj;obtain⟨k,p,o,g1,g2,rfl,g3,g4,g5⟩:=look j o' hj;obtain⟨B,hB,hO⟩:=h.objs k o g3;refine⟨B,by rw[hb0 j k g1];exact hB,?_⟩;have:OR P β w I (aob p) B:=by
   cases B with
   |none=>
    simp only[OR]at hO ⊢;rw[hO]at g5;simpa[bA,aob]using g5.symm
   | «at» b s n=>
    obtain⟨h1,c,e,h2,h3,h4⟩:=hO;refine⟨by rw[h1,g4];rfl,c,e,h2,h3,?_⟩;have:=ORows.wk _ _ _ _ (ORows.take p.2.length _ _ _ _ h4);rw[g5]at this;exact this
   |mp b=>exact OR.part g4 g5 hO
  exact this.dat fun b hb=> .inl hb
 ·intro j j' o o' B B' b h1 h2 h3 h4 h5 h6;obtain⟨k,p,q,g1,_,_,g3,_⟩:=look j o h1;obtain⟨k',p',q',g1',_,_,g3',_⟩:=look j' o' h2;rw[hb0 j k g1]at h3;rw[hb0 j' k' g1']at h4;have:=h.injB k k' q q' B B' b g3 g3' h3 h4 h5 h6;subst this;exact Gq hnd g1 g1'
 ·intro j o B b h1 h2 h5;obtain⟨k,p,q,g1,_,_,g3,_⟩:=look j o h1;have h2':=h2;rw[hb0 j k g1]at h2;obtain⟨a1,a2,_⟩:=h.ownB k q B b g3 h2 h5;refine⟨?_,a2,.inl ⟨j,B,h2',h5⟩⟩;rintro (hI |⟨k',o',s',n',e1,e2,e3⟩)
  ·exact a1 hI
  ·have:=h.injL k k' q o' b g3 e2 ⟨B,h2,h5⟩ (.at e3);subst this;exact hdis _ e1 (List.mem_of_getElem? g1)
 ·exact Et h _
 ·exact fun b hb=> .inl hb
 ·exact fun _ _ _=>rfl
 ·exact Nat.le_refl _
 ·rfl
 ·rfl
 ·rfl
 ·intro j B hj;simp only[mg]at hj;split at hj
  ·exact hj
  ·cases hj
 ·exact h.vars.mono (fun _ _=>rfl) (fun b hb=> .inl hb)
theorem Mem.afterW (h:Mem P w0 O0 β I obj w) {ids lids:List Nat} {os':List (Option bJ)} {w':World} {I1 I2:Nat->Prop} {obj2:Nat->Option aF}
 (hM:Mem P w (mg (βc ids β) (Lent β obj lids I)) (βc ids β) I1 (Cq os') w') (hI:∀ b,I b->I2 b) (hI1:∀ b,I2 b->I1 b) (hids:∀ k∈ids,∃ o,obj k=some o)
 (ho:∀ k o,obj2 k=some o->(∃ j,ids[j]? =some k∧Cq os' j=some o∧∀ B,OR P (βc ids β) w' I1 o B->OR P β w' I2 o B)∨(k∉ids∧obj k=some o∧∀ b,Lies β k b->¬ I2 b)):
 Same I w w'∧Mem P w0 O0 β I2 obj2 w'∧(∀ b,Kt (βc ids β) b->¬ I b∧(O0.own b∨w0.heap.size<=b))∧∀ k o b,k∉ids->obj k=some o->Lies β k b->¬ Kt (βc ids β) b:=by
 have hb0:∀ j k,ids[j]? =some k->βc ids β j=β k:=fun j k hk=>by simp[βc,hk]
 have hown:∀ b,Kt (βc ids β) b->∃ k o,k∈ids∧obj k=some o∧Lies β k b:=by
  rintro b ⟨j,B,hj,hB⟩;obtain⟨k,h1,h2⟩:=Eu hj;obtain⟨o,h3⟩:=hids k (List.mem_of_getElem? h1);exact⟨k,o,List.mem_of_getElem? h1,h3,B,h2,hB⟩
 have hold:∀ k o,obj2 k=some o->∃ q,obj k=some q:=by
  intro k o hk;rcases ho k o hk with ⟨j,h1,_⟩ |⟨_,h2,_⟩
  ·exact hids k (List.mem_of_getElem? h1)
  ·exact⟨o,h2⟩
 have hapart:∀ k o b,k∉ids->obj k=some o->Lies β k b->¬ Kt (βc ids β) b:=by
  intro k o b hk h1 h2 hb;obtain⟨k',o',g1,g2,g3⟩:=hown b hb;have:=h.injL k k' o o' b h1 g2 h2 g3;subst this;exact hk g1
 have hS:Same I w w':=fun b hb=>hM.keep b (h.lt b hb) (fun hb'=>by
  obtain⟨k',o',g1,g2,g3⟩:=hown b hb';exact (h.ownL k' o' b g2 g3).1 hb)
 refine⟨hS,?_,fun b hb=>?_,hapart⟩
 ·constructor
  ·intro k o hk;rcases ho k o hk with ⟨j,h1,h2,h3⟩ |⟨h1,h2,h3⟩
   ·obtain⟨B,hB,hO⟩:=hM.objs j o h2;exact⟨B,by rw[<- hb0 j k h1];exact hB,h3 B hO⟩
   ·obtain⟨B,hB,hO⟩:=h.objs k o h2;refine⟨B,hB,OR.mono (fun _ _ h=>h) hS hI (fun b e=>hM.keep b (h.ownB k o B b h2 hB e).2.1 (hapart k o b h1 h2 ⟨B,hB,e⟩)) hO⟩
  ·intro k k' o o' B B' b h1 h2;obtain⟨q,e1⟩:=hold k o h1;obtain⟨q',e2⟩:=hold k' o' h2;exact h.injB k k' q q' B B' b e1 e2
  ·intro k o B b h1 h2 h5;obtain⟨q,e1⟩:=hold k o h1;obtain⟨a1,a2,a3⟩:=h.ownB k q B b e1 h2 h5;refine⟨?_,Nat.lt_of_lt_of_le a2 hM.le,a3⟩;rcases ho k o h1 with ⟨j,g1,g2,_⟩ |⟨_,_,g3⟩
   ·exact fun hb=>(hM.ownB j o B b g2 (by rw[hb0 j k g1];exact h2) h5).1 (hI1 b hb)
   ·exact g3 b ⟨B,h2,h5⟩
  ·exact fun b hb=>hM.lt b (hI1 b hb)
  ·intro b hb;rcases hM.up b (hI1 b hb)with (g |⟨k',o',s',n',_,g2,g3⟩) |g |g
   ·exact h.up b g
   ·exact .inr (h.own k' o' b s' n' g2 g3).2.2
   ·obtain⟨k',o',_,g2,g3⟩:=hown b g;exact .inr (h.ownL k' o' b g2 g3).2.2
   ·exact .inr (.inr (Nat.le_trans h.le g))
  ·intro b hb hno;refine (hM.keep b (Nat.lt_of_lt_of_le hb h.le) (fun hb'=>?_)).trans (h.keep b hb hno);obtain⟨k',o',_,g2,g3⟩:=hown b hb';rcases (h.ownL k' o' b g2 g3).2.2 with g |g
   ·exact hno g
   ·omega
  ·exact Nat.le_trans h.le hM.le
  ·exact hM.os.trans h.os
  ·exact hM.tape.trans h.tape
  ·exact hM.output.trans h.output
  ·exact h.anch
  ·exact h.vars.mono hS hI
 ·obtain⟨k',o',_,g2,g3⟩:=hown b hb;exact⟨(h.ownL k' o' b g2 g3).1,(h.ownL k' o' b g2 g3).2.2⟩
mutual
theorem Qn {get:Nat->Option aF} {ids:List Nat}:∀ {x:AV} {hs:List LH} {p:AV×List LH×List Prop},lH P get ids x hs=some p->(∀ q∈p.2.2,q)->BorW1 P get ids x p.1:=by
 intro x hs p h ho;unfold lH at h;split at h
 ·split at h
  ·injection h with h;subst h;exact BorW1.base _ _ _ (.inl ⟨_,_,_,_,‹_›,rfl,rfl⟩)
  ·cases h
 ·split at h
  ·injection h with h;subst h;exact BorW1.base _ _ _ (.inr (.inl ⟨_,_,_,_,‹_›,rfl,rfl⟩))
  ·cases h
 ·split at h
  ·injection h with h;subst h;exact BorW1.base _ _ _ (.inr (.inr (.inl ⟨_,_,‹_›,rfl,rfl⟩)))
  ·cases h
 ·rename_i cs hs;simp only[ai,Option.some.injEq]at h;obtain⟨q,h1,rfl⟩:=h;simp only[BorW1];exact .inl (iU h1 (fun y hy=>ho y (by simp[hy])))
 ·split at h
  ·rename_i hd;refine BorW1.base _ _ _ (.inr (.inr (.inr ⟨fun k hk=>by simpa using all_eq_true.1 hd k (by simpa[refs]using hk),xM _ _ _ h ho⟩)))
  ·cases h
 ·rename_i F first caps hs
  simp only[ai,Option.some.injEq]at h;obtain⟨q,h1,q',h2,rfl⟩:=h;simp only[BorW1];exact .inl ⟨trivial,iU h1 (fun y hy=>ho y (by simp[hy])),iU h2 (fun y hy=>ho y (by simp[hy]))⟩
 ·split at h
  ·rename_i hd;refine BorW1.base _ _ _ (.inr (.inr (.inr ⟨fun k hk=>by simpa using all_eq_true.1 hd k hk,xM _ _ _ h ho⟩)))
  ·cases h
theorem iU {get:Nat->Option aF} {ids:List Nat}:∀ {xs:List AV} {hs:List LH} {p:List AV×List LH×List Prop},iG P get ids xs hs=some p->(∀ q∈p.2.2,q)->BorLW P get ids xs p.1
 |[],hs,p,h,_=>by simp only[iG,Option.some.injEq]at h;subst h;trivial
 |x::xs,hs,p,h,ho=>by
  simp only[iG,ai,Option.some.injEq]at h;obtain⟨q,h1,q',h2,rfl⟩:=h;exact⟨Qn h1 (fun y hy=>ho y (by simp[hy])),iU h2 (fun y hy=>ho y (by simp[hy]))⟩
end
theorem BorW0.sound (h:Mem P w0 O0 β I obj w) {get:Nat->Option aF} (hg:∀ k o,get k=some o->obj k=some o) {ids:List Nat} (lids:List Nat) {x y:AV} {v:Value} (hk:∀ k,k∈refs x->k∉ids->k∈lids) (hb:BorW0 P get ids x y) (hv1:VR P β w I x v):VR P (βc ids β) w (Lent β obj lids I) y v:=by
 rcases hb with ⟨j,k,off,len,e1,rfl,rfl⟩ |⟨j,k,row,off,e1,rfl,rfl⟩ |⟨j,k,e1,rfl,rfl⟩ |⟨e1,e2⟩
 ·simp only[VR]at hv1 ⊢;have:βc ids β j=β k:=by simp[βc,e1]
  rw[this];exact hv1
 ·simp only[VR]at hv1 ⊢;have:βc ids β j=β k:=by simp[βc,e1]
  rw[this];exact hv1
 ·simp only[VR]at hv1 ⊢;have:βc ids β j=β k:=by simp[βc,e1]
  rw[this];exact hv1
 ·have:=Bor.sound h lids x y v (fun k hk'=>hk k hk' (e1 k hk')) (Bor.weaken hg x y e2) hv1;exact VR.mono (fun k B h=>by simp[nob]at h) (fun _ _=>rfl) (fun _ h=>h) _ _ this
mutual
theorem BorW1.sound (h:Mem P w0 O0 β I obj w) {get:Nat->Option aF} (hg:∀ k o,get k=some o->obj k=some o) {ids:List Nat} (lids:List Nat):∀ (x y:AV) (v:Value),(∀ k,k∈refs x->k∉ids->k∈lids)->BorW1 P get ids x y->VR P β w I x v->VR P (βc ids β) w (Lent β obj lids I) y v:=by
 intro x y v hk hb hv;unfold BorW1 at hb;split at hb
 ·rcases hb with ⟨rfl,h1,h2⟩ |hb
  ·simp only[VR]at hv ⊢;obtain⟨fs,cs,e,g1,g2⟩:=hv;exact⟨fs,cs,e,BorLW.sound h hg lids _ _ _ (fun k hk'=>hk k (by simp[refs,hk'])) h1 g1,BorLW.sound h hg lids _ _ _ (fun k hk'=>hk k (by simp[refs,hk'])) h2 g2⟩
  ·exact BorW0.sound h hg lids hk hb hv
 ·rcases hb with h1 |hb
  ·simp only[VR]at hv ⊢;obtain⟨vs,e,g1⟩:=hv;exact⟨vs,e,BorLW.sound h hg lids _ _ _ (fun k hk'=>hk k (by simpa[refs]using hk')) h1 g1⟩
  ·exact BorW0.sound h hg lids hk hb hv
 ·exact BorW0.sound h hg lids hk hb hv
theorem BorLW.sound (h:Mem P w0 O0 β I obj w) {get:Nat->Option aF} (hg:∀ k o,get k=some o->obj k=some o) {ids:List Nat} (lids:List Nat):∀ (xs ys:List AV) (vs:List Value),(∀ k,k∈bH xs->k∉ids->k∈lids)->BorLW P get ids xs ys->VRl P β w I xs vs->VRl P (βc ids β) w (Lent β obj lids I) ys vs
 |[],[],[],_,_,_=>by simp[VRl]
 |x::xs,y::ys,v::vs,hk,hb,hv=>by
  simp only[VRl]at hv ⊢;exact⟨BorW1.sound h hg lids x y v (fun k hk'=>hk k (by simp[bH,hk'])) hb.1 hv.1,BorLW.sound h hg lids xs ys vs (fun k hk'=>hk k (by simp[bH,hk'])) hb.2 hv.2⟩
 |[],_::_,_,_,hb,_=>hb.elim
 |_::_,[],_,_,hb,_=>hb.elim
 |[],[],_::_,_,_,hv=>by simp[VRl]at hv
 |_::_,_::_,[],_,_,hv=>by simp[VRl]at hv
end
theorem R4 {os':List (Option bJ)} {j:Nat} {o:aF} (h:Cq os' j=some o):∃ p,some p∈os'∧o=aob p:=by
 simp only[Cq,Option.map_eq_some_iff,Option.join_eq_some_iff]at h;obtain⟨p,hp,rfl⟩:=h;exact⟨p,List.mem_of_getElem? hp,rfl⟩
theorem R5 (h:Mem P w0 O0 β I obj w) (hn:β (nid i)=none) {ids lids:List Nat} {os':List (Option bJ)} {rv:RV} {p:AV×List (Nat×Option aF)} {keep:Bool} (hp:imp i ids rv=some p) (hk:keep=true->rv.flat∧Ku os')
 (hnd:ids.Nodup) (hlen:os'.length=ids.length) (hids:∀ k∈ids,∃ o,obj k=some o)
 {w':World} {I1:Nat->Prop} {v:Value} (hM:Mem P w (mg (βc ids β) (Lent β obj lids I)) (βc ids β) I1 (Cq os') w') (h1:∀ b,Lent β obj lids I b->I1 b) (hr:RVR P (R3 w (βc ids β) os') (βc ids β) rv w' I1 v):
 ∃ β' I',Step β I w (nid i) β' I' w'∧Mem P w0 O0 β' I' (aL obj (p.2++(u6 ids os'++if keep then []else lids.map (fun k=>(k,none))))) w'∧VR P β' w' I' p.1 v:=by
 have look:∀ g k o,aL obj (u6 ids os'++g) k=some o->(∃ j,ids[j]? =some k∧Cq os' j=some o)∨(k∉ids∧aL obj g k=some o):=by
  intro g k o hk;by_cases hki:k∈ids
  ·obtain⟨j,hj⟩:=List.getElem?_of_mem hki;rw[OE hnd hlen hj]at hk;exact .inl ⟨j,hj,hk⟩
  ·rw[X6 hki]at hk;exact .inr ⟨hki,hk⟩
 have main:∀ (g:List (Nat×Option aF)) (I2:Nat->Prop),(∀ k o,aL obj g k=some o->obj k=some o)->(∀ b,I b->I2 b)->(∀ b,I2 b->I1 b)->(∀ j o B,Cq os' j=some o->OR P (βc ids β) w' I1 o B->OR P β w' I2 o B)->
  (∀ k o b,k∉ids->aL obj g k=some o->Lies β k b->¬ I2 b)->RVR P (R3 w (βc ids β) os') (βc ids β) rv w' I2 v->
  ∃ β' I',Step β I w (nid i) β' I' w'∧Mem P w0 O0 β' I' (aL obj (p.2++(u6 ids os'++g))) w'∧VR P β' w' I' p.1 v:=by
  intro g I2 hg hI hI1 hor hng hr2;obtain⟨hS,hM2,hown,hapart⟩:=h.afterW (obj2:=aL obj (u6 ids os'++g)) hM hI hI1 hids (fun k o hk=>by
   rcases look g k o hk with ⟨j,e1,e2⟩ |⟨e1,e2⟩
   ·exact .inl ⟨j,e1,e2,fun B=>hor j o B e2⟩
   ·exact .inr ⟨e1,hg k o e2,fun b e3=>hng k o b e1 e2 e3⟩)
  obtain⟨β',k1,k2,k3⟩:=Gp (ids:=ids) (F:=R3 w (βc ids β) os') (βc:=βc ids β) hM2 hn (fun k o b e1 e2 hb=>by
   rcases look g k o e1 with ⟨j,e3,e4⟩ |⟨e3,e4⟩
   ·exact hb.2 j o e4 (by obtain⟨B,e5,e6⟩:=e2;exact⟨B,by simp[βc,e3,e5],e6⟩)
   ·rcases hb.1 with hb |hb
    ·exact hapart k o b e3 (hg k o e4) e2 hb
    ·have:=(h.ownL k o b (hg k o e4) e2).2.1;omega) (fun b hb=>by
   rcases hb.1 with hb |hb
   ·exact (hown b hb).2
   ·exact .inr (Nat.le_trans h.le hb)) (fun j B hj=>Eu hj) hp hr2
  refine⟨β',I2,⟨k1.other,k1.ext,hS,hI⟩,?_,k3⟩;have e:aL obj (p.2++(u6 ids os'++g))=aL (aL obj (u6 ids os'++g)) p.2:=funext fun k=>lT obj _ _ k;rw[e];exact k2
 cases keep with
 |true=>
  obtain⟨hf1,hf2⟩:=hk rfl;exact main [] I (fun _ _ h=>h) (fun _ h=>h) (fun b hb=>h1 b (.inl hb)) (fun j o B hj hO=>by
   obtain⟨q,hq,rfl⟩:=R4 hj;exact OR.flat (hf2 q hq) hO) (fun k o b _ e1 e2=>(h.ownL k o b e1 e2).1) (RVR.flat hf1 (fun b hb=>h1 b (.inl hb)) hr)
 |false=>
  have hsub:∀ k o,aL obj (lids.map fun k=>(k,none)) k=some o->obj k=some o∧k∉lids:=by
   intro k o hk;rw[rH]at hk;split at hk
   ·cases hk
   ·exact⟨hk,‹_›⟩
  refine main _ I1 (fun k o hk=>(hsub k o hk).1) (fun b hb=>h1 b (.inl hb)) (fun _ h=>h) (fun j o B hj hO=>by
   obtain⟨q,hq,rfl⟩:=R4 hj;exact OR.dat (fun _ h=>h) hO) (fun k o b hki e1 e2 hb=>?_) hr
  obtain⟨f1,f2⟩:=hsub k o e1;obtain⟨a1,a2,_⟩:=h.ownL k o b f1 e2;rcases hM.up b hb with (g |⟨k',o',s',n',g1,g2,g3⟩) |⟨j,B',g,g'⟩ |g
  ·exact a1 g
  ·have:=h.injL k k' o o' b f1 g2 e2 (.at g3);subst this;exact f2 g1
  ·obtain⟨k',g1,g2⟩:=Eu g;obtain⟨o',g3⟩:=hids k' (List.mem_of_getElem? g1);have:=h.injL k k' o o' b f1 g3 e2 ⟨B',g2,g'⟩;subst this;exact hki (List.mem_of_getElem? g1)
  ·omega
theorem Kv (h:Mem P w0 O0 β I obj w) (hn:β (nid i)=none) {f:AV} {args:List AV} {orc:Orc} {get:Nat->Option aF} {out:Out} (hg:∀ k o,get k=some o->obj k=some o)
 {fv:Value} {vs:Array Value} {ops:Array Operand} {fo:Operand} {r:Operand->Value} (ha:z8 P i f args orc get=some out) (hob:out.ob) (hf:VR P β w I f fv) (hv:VRl P β w I args vs.toList) (hfo:r fo=fv) (hops:vs=ops.map r)
 {dst:Option Tmp} {pos:String} {after:Array Edge} {guard:Option (Nat×Bool)} {ty:TypeId} {tys:Array TypeId}:
 uE P w0 O0 β I obj w i out ((execOp r ⟨dst,.call { callee:= .value fo,args:=ops,argTypes:=tys },ty,pos,after,guard⟩).run P w):=by
 unfold z8 at ha;split at ha
 ·rename_i F first caps ids os os' hs rv keep
  split at ha
  ·rename_i hc;obtain⟨hnd,hlen⟩:=hc;cases hp:imp i ids rv with
   |none=>simp[hp]at ha
   |some p=>
   cases hmo:uZ get ids os with
   |none=>simp[hp,hmo]at ha
   |some mo=>
   cases hq:iG P get ids (first++args++caps) hs with
   |none=>simp only[hp,hmo,hq,bind_some,Option.bind_none,reduceCtorEq]at ha
   |some q=>
   simp only[hp,hmo,hq,bind_some]at ha;simp only[VR]at hf;obtain⟨fs,cs,rfl,hf1,hf2⟩:=hf;have hout:(∀ x∈q.2.2++mo,x)∧FnW P F q.1 os os' rv∧(keep=true->rv.flat∧Ku os')∧out.v=p.1∧out.upd=p.2++(u6 ids os'++if keep then []else (zZ (first++args++caps) ids).map (fun k=>(k,none))):=by
    cases keep with
    |true=>
     simp only[if_true,Option.some.injEq]at ha;subst ha;have hob:=kS _ hob;exact⟨fun x hx=>hob x (by simp only[mem_append]at hx ⊢;exact .inl hx),hob (FnW P F q.1 os os' rv) (by simp),fun _=>⟨hob rv.flat (by simp),hob (Ku os') (by simp)⟩,rfl,by simp⟩
    |false=>
     simp only[Bool.false_eq_true,if_false,Option.some.injEq]at ha;subst ha;have hob:=kS _ hob;exact⟨fun x hx=>hob x (by simp only[mem_append]at hx ⊢;exact .inl hx),hob (FnW P F q.1 os os' rv) (by simp),fun h=>(by cases h),rfl,by simp⟩
   obtain⟨o1,o2,o3,o4,o5⟩:=hout;obtain⟨⟨fn,e1,e2,e3⟩,hcon⟩:=o2;obtain⟨hl2,hmm⟩:=Ik hmo (fun x hx=>o1 x (by simp[hx]));have hmm':∀ (j:Nat) k p,ids[j]? =some k->os[j]? =some p->∃ o,obj k=some o∧o.sz=p.1∧bA (o.rows.take p.2.length)=ay p.2:=fun j k p h1 h2=>by
    obtain⟨o,g1,g2⟩:=hmm j k p h1 h2;exact⟨o,hg k o g1,g2⟩
   have hids:∀ k∈ids,∃ o,obj k=some o:=by
    intro k hk;obtain⟨j,hj⟩:=List.getElem?_of_mem hk;have hjl:j < os.length:=(by rw[<- hl2];exact (List.getElem?_eq_some_iff.1 hj).1);obtain⟨o,g,_⟩:=hmm' j k _ hj (List.getElem?_eq_getElem hjl);exact⟨o,g⟩
   have hlid:∀ k∈zZ (first++args++caps) ids,k∉ids:=fun k hk=>by
    simp only[zZ,List.mem_filter]at hk;simpa using hk.2
   have hM:=h.handed (lids:=zZ (first++args++caps) ids) hnd hl2 hmm' hlid;have hall:VRl P β w I (first++args++caps) (fs++vs++cs).toList:=by
    simp only[Array.toList_append];exact VRl.append _ _ _ _ (VRl.append _ _ _ _ hf1 hv) hf2
   have hlent:=BorLW.sound h hg (zZ (first++args++caps) ids) _ _ _ (fun k hk hn=>by simp only[zZ,List.mem_filter];exact⟨hk,by simpa using hn⟩) (iU hq (fun x hx=>o1 x (by simp[hx]))) hall;refine⟨F,fs++vs++cs,?_,(hcon w _ _ _ (fun k hk=>?_) hM hlent).mono ?_⟩
   ·have hb:¬ fn.body=none:=(by cases hh:fn.body<;>simp[hh]at e2 ⊢);have e3' : ¬ fn.name = "runtime.NumGoroutine" := (by simpa using e3);simp[execOp,resolve,hfo,<- hops,Deferred.ofValue,invoke,callFunc,e1,e3',hb]
   ·simp[βc,List.getElem?_eq_none (show ids.length<=k by omega)]
   ·rintro e w' ⟨v',I1,rfl,g1,g2,g3⟩;obtain⟨β',I',k1,k2,k3⟩:=R5 (keep:=keep) h hn hp o3 hnd hlen hids g1 g2 g3;exact⟨v',β',I',rfl,k1,by rw[o5];exact k2,by rw[o4];exact k3⟩
  ·cases ha
 ·cases ha
theorem Kw (h:Mem P w0 O0 β I obj w) (hn:β (nid i)=none) {f:AV} {args:List AV} {orc:Orc} {get:Nat->Option aF} {out:Out} (hg:∀ k o,get k=some o->obj k=some o)
 {fv:Value} {vs:Array Value} {ops:Array Operand} {fo:Operand} {r:Operand->Value} (ha:jM P i f args orc get=some out) (hob:out.ob) (hf:VR P β w I f fv) (hv:VRl P β w I args vs.toList) (hfo:r fo=fv) (hops:vs=ops.map r)
 {dst:Option Tmp} {pos:String} {after:Array Edge} {guard:Option (Nat×Bool)} {ty:TypeId} {tys:Array TypeId}:
 uE P w0 O0 β I obj w i out ((execOp r ⟨dst,.call { callee:= .value fo,args:=ops,argTypes:=tys },ty,pos,after,guard⟩).run P w):=by
 unfold jM at ha;split at ha
 ·exact Kv h hn hg ha hob hf hv hfo hops
 ·exact Nz h hn hg ha hob hf hv hfo hops
end
end Go.Gb
