/-
  Plain lemmas on what the typed walk prints: loops, lists, numbers. No program in sight.
-/
import Derived.Test.YtplkangbgmlgdaaGreatDoorW4
import Derived.Sort.AssemblyPlain
import Derived.Sort.LotD4
import Derived.Sort.LotD5
open Go.IntKind (i64)
open List (length_take length_drop foldl_cons pairwise_cons)
namespace Go.Gb
open Go.RowKit
theorem bB {x:Int} (h1: -9223372036854775808<=x:=by omega) (h2:x<=9223372036854775807:=by omega):i64.wrap x=x:=by rw[IntKind.wrap_i64];omega
theorem oG {x:Nat} (h:x<=9223372036854775807):i64.wrap (x:Int)=(x:Int):=bB (by omega) (by omega)
theorem aN {i:Nat} (h:i < 9223372036854775807):i64.wrap ((i:Int)+1)=((i+1:Nat):Int):=by rw[bB (by omega) (by omega)];omega
theorem bL (i:Nat) (h:i < 9223372036854775807:=by omega):IntKind.i64.wrap ((i:Int)+1)=((i+1:Nat):Int):=aN h
theorem gB {i:Nat} (h0:0 < i) (h:i<=9223372036854775807):i64.wrap ((i:Int) - 1)=((i - 1:Nat):Int):=by rw[bB (by omega) (by omega)];omega
section
variable {α β S V O W:Type}
@[simp] theorem aex (l:List α) (i:Nat):at? l (i:Int)=l[i]? :=by simp[at?]
theorem gW (l:List α) (i:Nat):at? l (((0:Nat):Int)+(i:Int))=l[i]? :=by simp[at?]
theorem aY {l:List α} {i:Nat} (h:i < l.length):at? l (i:Int)=some l[i]:=by simp[h]
theorem dh {l:List α} {i:Nat} (h:i < l.length):at? l (((0:Nat):Int)+(i:Int))=some l[i]:=by rw[gW];simp[h]
theorem Zm {l:List α} (h:0 < l.length):at? l 0=some l[0]:=by have:=aY h;simpa using this
@[simp] theorem alr (i n:Nat):inb (i:Int) n=decide (i < n):=by simp[inb]
theorem bC {i n:Nat} (h:i < n):inb (i:Int) n=true:=by simp[h]
@[simp] theorem dH (a:α) (f:α->β):gQ a f=f a:=rfl
@[simp] theorem aC (a:Nat):eqL a a=true:=by simp[eqL]
theorem Zn {a b:Nat} (h:a=b):eqL a b=true:=by simp[eqL,h]
@[simp] theorem bE (l:List α):sub l 0 l.length=l:=by simp[sub]
theorem abW (l:List α) (n:Nat):sub l 0 n=l.take n:=by simp[sub]
@[simp] theorem OH (n b:Nat):bM 0 0 n n b=(decide (n*b<=140737488355328)&&decide (n<=maxLen)):=by simp[bM]
theorem bI {a n b:Nat} (h1:(a+n)*b<=140737488355328:=by omega) (h2:a+n<=maxLen:=by simp only[maxLen];omega):bM a a n n b=true:=by simp[bM,h1,h2]
theorem uY {l h:Int} {n:Nat} (h1:0<=l) (h2:l<=h) (h3:h<=(n:Int)):yA l h n=true:=by simp[yA,h1,h2,h3]
@[simp] theorem fD (w:W) (f:W->Option α):dX (some (Sum.inl w:W ⊕ α)) f=f w:=rfl
@[simp] theorem OI (a:α) (f:W->Option α):dX (some (Sum.inr a:W ⊕ α)) f=some a:=rfl
theorem Df (step:V->Option (V ⊕ O)) (n:Nat) (v:V):iter step (n+1) v=(step v).bind fun r=>match r with
 | .inl v=>iter step n v
 | .inr o=>some o:=rfl
theorem dK {step:V->Option (V ⊕ O)} {n:Nat} {v v':V} (h:step v=some (.inl v')):iter step (n+1) v=iter step n v':=by rw[Df,h];rfl
theorem bF {step:V->Option (V ⊕ O)} {n:Nat} {v:V} {o:O} (h:step v=some (.inr o)):iter step (n+1) v=some o:=by rw[Df,h];rfl
theorem d9 {step:V->Option (V ⊕ O)} (g:Nat->V) (N:Nat) (o:O) (h:∀ i,i < N->step (g i)=some (.inl (g (i+1)))) (hN:step (g N)=some (.inr o)):
 ∀ n,N < n->iter step n (g 0)=some o:=by
 have main:∀ k i n,i+k=N->k < n->iter step n (g i)=some o:=by
  intro k
  induction k with
  |zero=>
   intro i n hi hn;obtain⟨m,rfl⟩:∃ m,n=m+1:=⟨n - 1,by omega⟩;have:i=N:=(by omega);subst this;exact bF hN
  |succ k ih=>
   intro i n hi hn;obtain⟨m,rfl⟩:∃ m,n=m+1:=⟨n - 1,by omega⟩;rw[dK (h i (by omega))];exact ih (i+1) m (by omega) (by omega)
 intro n hn;exact main N 0 n (by omega) hn
def sK (f:α->S->S ⊕ O) (fin:S->O):List α->S->O
 |[],s=>fin s
 |x::xs,s=>match f x s with
  | .inl s'=>sK f fin xs s'
  | .inr o=>o
theorem Ul {l:List α} {step:V->Option (V ⊕ O)} (enc:Nat->S->V) (f:α->S->S ⊕ O) (fin:S->O) (Inv:Nat->S->Prop)
 (h:∀ i (hi:i < l.length) s,Inv i s->step (enc i s)=some (match f l[i] s with | .inl s'=> .inl (enc (i+1) s') | .inr o=> .inr o)∧∀ s',f l[i] s= .inl s'->Inv (i+1) s')
 (hend:∀ s,Inv l.length s->step (enc l.length s)=some (.inr (fin s))):∀ n,l.length < n->∀ s,Inv 0 s->iter step n (enc 0 s)=some (sK f fin l s):=by
 have main:∀ k i n,i+k=l.length->k < n->∀ s,Inv i s->iter step n (enc i s)=some (sK f fin (l.drop i) s):=by
  intro k
  induction k with
  |zero=>
   intro i n hi hn s hs;obtain⟨m,rfl⟩:∃ m,n=m+1:=⟨n - 1,by omega⟩;have:i=l.length:=(by omega);subst this;rw[bF (hend s hs)];simp[sK]
  |succ k ih=>
   intro i n hi hn s hs;obtain⟨m,rfl⟩:∃ m,n=m+1:=⟨n - 1,by omega⟩;have hil:i < l.length:=(by omega);obtain⟨h1,h2⟩:=h i hil s hs;rw[List.drop_eq_getElem_cons hil];simp only[sK];cases hf:f l[i] s with
   |inl s'=>
    rw[hf]at h1;rw[dK h1];exact ih (i+1) m (by omega) (by omega) s' (h2 s' hf)
   |inr o=>
    rw[hf]at h1;rw[bF h1]
 intro n hn s hs;have:=main l.length 0 n (by omega) hn s hs;simpa using this
theorem X3 {l:List α} {step:V->Option (V ⊕ O)} (enc:Nat->S->V) (f:α->S->S ⊕ O) (fin:S->O)
 (h:∀ i (hi:i < l.length) s,step (enc i s)=some (match f l[i] s with | .inl s'=> .inl (enc (i+1) s') | .inr o=> .inr o))
 (hend:∀ s,step (enc l.length s)=some (.inr (fin s))):∀ n,l.length < n->∀ s,iter step n (enc 0 s)=some (sK f fin l s):=fun n hn s=>
 Ul enc f fin (fun _ _=>True) (fun i hi s _=>⟨h i hi s,fun _ _=>trivial⟩) (fun s _=>hend s) n hn s trivial
theorem Um (g:α->S->S) (fin:S->O):∀ (l:List α) (s:S),sK (fun x s=> .inl (g x s)) fin l s=fin (l.foldl (fun s x=>g x s) s)
 |[],_=>rfl
 |x::xs,s=>by simp only[sK,foldl_cons];exact Um g fin xs _
theorem cZ {l:List α} {step:V->Option (V ⊕ O)} (enc:Nat->S->V) (g:α->S->S) (fin:S->O) (Inv:Nat->S->Prop)
 (h:∀ i (hi:i < l.length) s,Inv i s->step (enc i s)=some (.inl (enc (i+1) (g l[i] s)))∧Inv (i+1) (g l[i] s))
 (hend:∀ s,Inv l.length s->step (enc l.length s)=some (.inr (fin s))) (n:Nat) (hn:l.length < n) (s:S) (hs:Inv 0 s):iter step n (enc 0 s)=some (fin (l.foldl (fun s x=>g x s) s)):=by rw[Ul enc (fun x s=> .inl (g x s)) fin Inv (fun i hi s hs=>⟨(h i hi s hs).1,fun s' hs'=>by injection hs' with hs';subst hs';exact (h i hi s hs).2⟩) hend n hn s hs,Um]
theorem zb {l:List α} {step:V->Option (V ⊕ O)} (enc:Nat->S->V) (g:α->S->S) (fin:S->O)
 (h:∀ i (hi:i < l.length) s,step (enc i s)=some (.inl (enc (i+1) (g l[i] s))))
 (hend:∀ s,step (enc l.length s)=some (.inr (fin s))) (n:Nat) (hn:l.length < n) (s:S):iter step n (enc 0 s)=some (fin (l.foldl (fun s x=>g x s) s)):=
 cZ enc g fin (fun _ _=>True) (fun i hi s _=>⟨h i hi s,trivial⟩) (fun s _=>hend s) n hn s trivial
def nR (p:α->Bool):List α->Option Nat
 |[]=>none
 |x::xs=>bif p x then some 0 else (nR p xs).map (· +1)
theorem uZ (p:α->Bool):∀ (l:List α),(∃ (i:Nat) (h:i < l.length),nR p l=some i∧p l[i]=true∧∀ j (hj:j < i),p (l[j]'(by omega))=false)∨(nR p l=none∧∀ x∈l,p x=false)
 |[]=> .inr ⟨rfl,by simp⟩
 |x::xs=>by
  cases hx:p x with
  |true=>exact .inl ⟨0,by simp,by simp[nR,hx],by simpa using hx,fun j hj=>by omega⟩
  |false=>
   rcases uZ p xs with ⟨i,h,h1,h2,h3⟩ |⟨h1,h2⟩
   ·refine .inl ⟨i+1,by simpa using h,by simp[nR,hx,h1],by simpa using h2,fun j hj=>?_⟩;cases j with
    |zero=>simpa using hx
    |succ j=>simpa using h3 j (by omega)
   ·exact .inr ⟨by simp[nR,hx,h1],by simpa[hx]using h2⟩
theorem jW {l:List α} {step:V->Option (V ⊕ (W ⊕ O))} (enc:Nat->V) (p:α->Bool) (w:W) (out:Nat->O)
 (h:∀ i (hi:i < l.length),step (enc i)=some (bif p l[i]then .inr (.inr (out i))else .inl (enc (i+1))))
 (hend:step (enc l.length)=some (.inr (.inl w))) (n:Nat) (hn:l.length < n):iter step n (enc 0)=some (match nR p l with |some i=> .inr (out i) |none=> .inl w):=by
 rcases uZ p l with ⟨i,hi,h1,h2,h3⟩ |⟨h1,h2⟩
 ·rw[h1];refine d9 enc i _ (fun j hj=>?_) ?_ n (by omega)
  ·rw[h j (by omega),h3 j hj];rfl
  ·rw[h i hi,h2];rfl
 ·rw[h1];refine d9 enc l.length _ (fun j hj=>?_) hend n hn;rw[h j hj,h2 _ (List.getElem_mem hj)];rfl
theorem j5 (p:α->Bool) (l:List α):(nR p l).isSome=l.any p:=by
 induction l with
 |nil=>rfl
 |cons x xs ih=>
  simp only[nR,List.any_cons];cases p x with
  |true=>rfl
  |false=>simp[ih]
end
section
variable {α:Type}
def iG (lt:α->α->Bool) (x:α):List α->List α
 |[]=>[x]
 |y::ys=>bif lt x y then y::iG lt x ys else x::y::ys
def gK (lt:α->α->Bool) (l:List α):List α:=(l.foldl (fun rs x=>iG lt x rs) []).reverse
variable {lt:α->α->Bool} {less:α->α->Option Bool}
theorem J9 (x:α):∀ ys:List α,(iG lt x ys).length=ys.length+1
 |[]=>rfl
 |y::ys=>by
  simp only[iG];cases lt x y<;>simp[J9 x ys]
theorem Kw (x z:α):∀ ys:List α,z∈iG lt x ys↔z=x∨z∈ys
 |[]=>by simp[iG]
 |y::ys=>by
  simp only[iG];cases lt x y with
  |true=>simp only[au,aI,Kw x z ys];exact⟨fun h=>by rcases h with h |h |h<;>simp[h],fun h=>by rcases h with h |h |h<;>simp[h]⟩
  |false=>simp
theorem ag3 (z:α) (l:List α):z∈gK lt l↔z∈l:=by
 unfold gK;rw[List.mem_reverse];have:∀ (l rs:List α),z∈l.foldl (fun rs x=>iG lt x rs) rs↔z∈l∨z∈rs:=by
  intro l
  induction l with
  |nil=>simp
  |cons x l ih=>intro rs;simp only[foldl_cons,ih,Kw,aI];exact⟨fun h=>by rcases h with h |h |h<;>simp[h],fun h=>by rcases h with (h |h) |h<;>simp[h]⟩
 simpa using this l []
theorem dD (l:List α):(gK lt l).length=l.length:=by
 unfold gK;rw[List.length_reverse];have:∀ (l rs:List α),(l.foldl (fun rs x=>iG lt x rs) rs).length=l.length+rs.length:=by
  intro l
  induction l with
  |nil=>simp
  |cons x l ih=>intro rs;simp only[foldl_cons,ih,J9,bH];omega
 simpa using this l []
end
theorem insRev_sorted (x:Int):∀ ys:List Int,ys.Pairwise (· >= ·)->(iG (fun a b=>decide (a < b)) x ys).Pairwise (· >= ·)
 |[],_=>by simp[iG]
 |y::ys,h=>by
  simp only[iG];rw[pairwise_cons]at h;by_cases hxy:x < y
  ·simp only[hxy,decide_true,au,pairwise_cons];refine⟨fun z hz=>?_,insRev_sorted x ys h.2⟩;rcases (Kw x z ys).1 hz with rfl |hz
   ·exact Int.le_of_lt hxy
   ·exact h.1 z hz
  ·simp only[hxy,decide_false,aA,pairwise_cons,aI];refine⟨fun z hz=>?_,h⟩;rcases hz with rfl |hz
   ·omega
   ·have:=h.1 z hz;omega
theorem isort_sorted (l:List Int):(gK (fun a b=>decide (a < b)) l).Pairwise (· <= ·):=by
 unfold gK;rw[List.pairwise_reverse];have:∀ (l rs:List Int),rs.Pairwise (· >= ·)->(l.foldl (fun rs x=>iG (fun a b=>decide (a < b)) x rs) rs).Pairwise (· >= ·):=by
  intro l
  induction l with
  |nil=>intro rs h;exact h
  |cons x l ih=>intro rs h;exact ih _ (insRev_sorted x rs h)
 exact this l [] List.Pairwise.nil
def fM:List Int->List Int
 |[]=>[]
 |[x]=>[x]
 |x::y::l=>bif x==y then fM (y::l)else x::fM (y::l)
theorem Un:∀ {a b:List Int},a.Pairwise (· < ·)->b.Pairwise (· < ·)->(∀ z,z∈a↔z∈b)->a=b
 |[],[],_,_,_=>rfl
 |[],y::b,_,_,h=>by have:=(h y).2 (by simp);simp at this
 |x::a,[],_,_,h=>by have:=(h x).1 (by simp);simp at this
 |x::a,y::b,ha,hb,h=>by
  rw[pairwise_cons]at ha hb;have hxy:x=y:=by
   have h1:=(h x).1 (by simp);have h2:=(h y).2 (by simp);rcases aI.1 h1 with h1 |h1
   ·exact h1
   ·rcases aI.1 h2 with h2 |h2
    ·exact h2.symm
    ·have:=ha.1 y h2;have:=hb.1 x h1;omega
  subst hxy;congr 1;refine Un ha.2 hb.2 fun z=>⟨fun hz=>?_,fun hz=>?_⟩
  ·rcases aI.1 ((h z).1 (bP _ hz))with e |e
   ·have:=ha.1 z hz;omega
   ·exact e
  ·rcases aI.1 ((h z).2 (bP _ hz))with e |e
   ·have:=hb.1 z hz;omega
   ·exact e
theorem yB:∀ (l:List Int) (z:Int),z∈fM l↔z∈l
 |[],_=>by simp[fM]
 |[x],_=>by simp[fM]
 |x::y::l,z=>by
  simp only[fM];by_cases h:x=y
  ·subst h;simp only[beq_self_eq_true,au,yB (x::l) z,aI,or_self_left]
  ·have:(x==y)=false:=(by simp[h]);simp only[this,aA,aI,yB (y::l) z]
theorem xG:∀ (l:List Int),l.Pairwise (· <= ·)->(fM l).Pairwise (· < ·)
 |[],_=>List.Pairwise.nil
 |[x],_=>by simp[fM]
 |x::y::l,h=>by
  rw[pairwise_cons]at h;simp only[fM];by_cases e:x=y
  ·subst e;simp only[beq_self_eq_true,au];exact xG (x::l) h.2
  ·have hb:(x==y)=false:=(by simp[e]);simp only[hb,aA,pairwise_cons];refine⟨fun z hz=>?_,xG (y::l) h.2⟩;rw[yB]at hz;have h1:=h.1 y (by simp);rcases aI.1 hz with rfl |hz
   ·omega
   ·have:=(pairwise_cons.1 h.2).1 z hz;omega
def uH (l:List Int):List Int:=fM (gK (fun a b=>decide (a < b)) l)
theorem Dg (l:List Int) (z:Int):z∈uH l↔z∈l:=by rw[uH,yB,ag3]
theorem rR (l:List Int):(uH l).Pairwise (· < ·):=xG _ (isort_sorted l)
theorem GQ {l m:List Int} (h:m.Pairwise (· < ·)) (hm:∀ z,z∈m↔z∈l):m=uH l:=Un h (rR l) fun z=>by rw[hm,Dg]
section
variable {α:Type}
def agp (l:List α) (φ:(α×Unit)->Option Bool):Int->Option (Int ⊕ (Unit ⊕ Int))
 |v1=>(bif (decide (v1 < ((l.length:Int):Int)))then (at? l v1).bind fun x1=>(φ (x1,())).bind fun r1=>(bif r1 then (some v1).map fun a=> .inr (.inr a)else some (.inl (i64.wrap (v1+1))))else some (.inr (.inl ())))
def wL (n:Nat) (l:List α) (φ:(α×Unit)->Option Bool):Option Int:=
 dX (iter (agp l φ) n (0:Int)) fun ()=>some ((-1):Int)
def ag4 (p:α->Bool) (l:List α):Int:=match nR p l with |some i=>(i:Int) |none=> -1
theorem xH {n:Nat} {l:List α} {φ:(α×Unit)->Option Bool} (p:α->Bool) (h:∀ x∈l,φ (x,())=some (p x)) (hl:l.length < 1099511627776) (hn:l.length < n):wL n l φ=some (ag4 p l):=by
 unfold wL;have:=jW (l:=l) (step:=agp l φ) (fun i=>(i:Int)) p () (fun i=>(i:Int)) (fun i hi=>?_) ?_ n hn
 ·rw[show ((0:Nat):Int)=0 from rfl]at this;rw[this];unfold ag4;cases nR p l<;>rfl
 ·have hi':decide (((i:Nat):Int) < (l.length:Int))=true:=by simpa using hi
  simp only[agp,hi',au,aY hi,ah,h _ (List.getElem_mem hi)];cases p l[i]with
  |true=>rfl
  |false=>simp only[aA];rw[aN (by omega)]
 ·simp[agp]
theorem Sv (p:α->Bool) (l:List α):decide (ag4 p l>=0)=l.any p:=by
 unfold ag4;rw[<- j5];cases nR p l<;>simp
def ajz (eq:α->Bool) (l:List α):Int->Option (Int ⊕ (Unit ⊕ Int))
 |v1=>(bif (decide (v1 < ((l.length:Int):Int)))then (at? l v1).bind fun x1=>(bif eq x1 then (some v1).map fun a=> .inr (.inr a)else some (.inl (i64.wrap (v1+1))))else some (.inr (.inl ())))
def Zo (n:Nat) (eq:α->Bool) (l:List α):Option Int:=
 dX (iter (ajz eq l) n (0:Int)) fun ()=>some ((-1):Int)
theorem abX {n:Nat} {l:List α} {eq:α->Bool} (hl:l.length < 1099511627776) (hn:l.length < n):Zo n eq l=some (ag4 eq l):=by
 unfold Zo;have:=jW (l:=l) (step:=ajz eq l) (fun i=>(i:Int)) eq () (fun i=>(i:Int)) (fun i hi=>?_) ?_ n hn
 ·rw[show ((0:Nat):Int)=0 from rfl]at this;rw[this];unfold ag4;cases nR eq l<;>rfl
 ·have hi':decide (((i:Nat):Int) < (l.length:Int))=true:=by simpa using hi
  simp only[ajz,hi',au,aY hi,ah];cases eq l[i]with
  |true=>rfl
  |false=>simp only[aA];rw[aN (by omega)]
 ·simp[ajz]
noncomputable def agq (b:Nat) (a0:List α):Option (List α):=
 (bif a0.isEmpty then (both (some ([]:(List α))) (bif bM ([]:List α).length 0 a0.length a0.length b then gQ (([]:List α)++a0) fun r1=>bif eqL (sub r1 0 r1.length).length r1.length then some (sub r1 0 r1.length)else none else none))else bif bM ([]:List α).length 0 a0.length a0.length b then gQ (([]:List α)++a0) fun r2=>bif eqL (sub r2 0 r2.length).length r2.length then some (sub r2 0 r2.length)else none else none)
theorem QI {l:List α} {b:Nat} (h:l.length*b<=140737488355328) (h2:l.length<=maxLen):agq b l=some l:=by
 have:bM ([]:List α).length 0 l.length l.length b=true:=bI (a:=0) (by simpa using h) (by simpa using h2);unfold agq;cases l with
 |nil=>simp only[this,au,dH,cu,bE,aC,List.isEmpty_nil];exact ag0 _
 |cons x l=>simp only[this,au,dH,cu,bE,aC,List.isEmpty_cons,aA]
def aey (z:α) (b:Nat) (a1:Int):Option (List α):=
 (bif (decide (a1 < (0:Int)))then none else (bif (decide ((i64.wrap (a1 - (i64.wrap (0 - 0))))>(0:Int)))then bif Ri (i64.wrap (a1 - (i64.wrap (0 - 0)))) b then bif yA 0 0 ((i64.wrap (a1 - (i64.wrap (0 - 0)))).toNat)then bif eqL (sub (List.replicate (i64.wrap (a1 - (i64.wrap (0 - 0)))).toNat z) 0 0).length 0 then some (sub (List.replicate (i64.wrap (a1 - (i64.wrap (0 - 0)))).toNat z) 0 0)else none else none else none else some ([]:(List α))))
theorem aez (z:α) {b n:Nat} (h:n*b<=140737488355328) (hn:n < 1099511627776):aey z b (n:Int)=some []:=by
 have w0:i64.wrap (0 - 0)=0:=by decide
 have w1:i64.wrap ((n:Int) - 0)=(n:Int):=by rw[Int.sub_zero];exact oG (by omega)
 have d:decide ((n:Int) < 0)=false:=by simp
 have m:Ri (n:Int) b=true:=by
  have h9:n<=maxLen:=by simp only[maxLen];omega
  simp[Ri,h,h9]
 have s:yA 0 0 (n:Int).toNat=true:=uY (by omega) (by omega) (by omega);have e:sub (List.replicate (n:Int).toNat z) 0 0=[]:=by simp[sub]
 unfold aey;simp only[w0,w1,d,aA,m,au,s,e];cases decide ((n:Int)>0)<;>rfl
def Zp (a0:List (List α)):(Int×Int)->Option ((Int×Int) ⊕ Int)
 |(v1,v2)=>(bif (decide (v2 < ((a0.length:Int):Int)))then (at? a0 v2).bind fun x1=>(bif (decide ((i64.wrap (v1+(x1.length:Int))) < (0:Int)))then none else some (.inl ((i64.wrap (v1+(x1.length:Int))),(i64.wrap (v2+1)))))else some (.inr v1))
def Zq (b:Nat) (a0:List (List α)):(Int×List α)->Option ((Int×List α) ⊕ List α)
 |(v3,v4)=>(bif (decide (v3 < ((a0.length:Int):Int)))then (at? a0 v3).bind fun x2=>bif bM v4.length v4.length x2.length x2.length b then gQ (v4++x2) fun r2=>bif eqL r2.length r2.length then some (.inl ((i64.wrap (v3+1)),r2))else none else none else bif eqL v4.length v4.length then some (.inr v4)else none)
def abY (z:α) (b:Nat) (n:Nat) (a0:List (List α)):Option (List α):=
 (iter (Zp a0) n ((0:Int),(0:Int))).bind fun w1=>(aey z b w1).bind fun r1=>bif eqL r1.length r1.length then (iter (Zq b a0) n ((0:Int),r1)).bind fun w2=>bif eqL (sub w2 0 w2.length).length w2.length then some (sub w2 0 w2.length)else none else none
theorem Zr (z:α) {b n:Nat} {a0:List (List α)} (hf:a0.flatten.length < 1099511627776) (hb:a0.flatten.length*b<=140737488355328) (hl:a0.length < 1099511627776) (hn:a0.length < n):abY z b n a0=some a0.flatten:=by
 have pre:∀ i,i<=a0.length->(a0.take i).flatten.length<=a0.flatten.length:=fun i _=>by
  conv=>rhs;rw[<- List.take_append_drop i a0,List.flatten_append,aZ]
  omega
 have step:∀ i (hi:i < a0.length),(a0.take (i+1)).flatten=(a0.take i).flatten++a0[i]:=fun i hi=>by rw[dW hi,List.flatten_append];simp only[List.flatten_cons,List.flatten_nil,List.append_nil]
 have h1:iter (Zp a0) n ((0:Int),(0:Int))=some (a0.flatten.length:Int):=by
  refine d9 (fun i=>(((a0.take i).flatten.length:Int),((i:Nat):Int))) a0.length _ (fun i hi=>?_) ?_ n hn
  ·have hi':decide (((i:Nat):Int) < (a0.length:Int))=true:=(by simpa using hi);have e1:(((a0.take i).flatten.length:Int)+(a0[i].length:Int))=((a0.take (i+1)).flatten.length:Int):=(by rw[step i hi,aZ];omega);have h3:=pre (i+1) (by omega);have e2:i64.wrap ((a0.take (i+1)).flatten.length:Int)=((a0.take (i+1)).flatten.length:Int):=oG (by omega);have e3:decide (((a0.take (i+1)).flatten.length:Int) < 0)=false:=(by simp);simp only[Zp,hi',au,aY hi,ah,e1,e2,e3,aA];rw[aN (by omega)]
  ·simp[Zp]
 have h2:iter (Zq b a0) n ((0:Int),([]:List α))=some a0.flatten:=by
  refine d9 (fun i=>(((i:Nat):Int),(a0.take i).flatten)) a0.length _ (fun i hi=>?_) ?_ n hn
  ·have hi':decide (((i:Nat):Int) < (a0.length:Int))=true:=(by simpa using hi);have h3:=pre (i+1) (by omega);have e1:(a0.take i).flatten.length+a0[i].length=(a0.take (i+1)).flatten.length:=(by rw[step i hi,aZ]);have ap:bM (a0.take i).flatten.length (a0.take i).flatten.length a0[i].length a0[i].length b=true:=bI (by rw[e1];exact Nat.le_trans (Nat.mul_le_mul_right _ h3) hb) (by simp only[maxLen];omega);simp only[Zq,hi',au,aY hi,ah,ap,dH,aC,<- step i hi];rw[aN (by omega)]
  ·simp[Zq]
 unfold abY;simp only[h1,ah,aez z hb hf,aC,au,h2,bE]
def aeA (ne:α->α->Bool) (a b:List α):Int->Option (Int ⊕ (Unit ⊕ Bool))
 |v1=>(bif (decide (v1 < ((a.length:Int):Int)))then (at? a v1).bind fun x1=>(at? b v1).bind fun x2=>(bif ne x1 x2 then (some false).map fun a=> .inr (.inr a)else some (.inl (i64.wrap (v1+1))))else some (.inr (.inl ())))
def Md (n:Nat) (ne:α->α->Bool) (a b:List α):Option Bool:=
 (bif ((a.length:Int) != ((b.length:Int):Int))then some false else dX (iter (aeA ne a b) n (0:Int)) fun ()=>some true)
theorem GR [DecidableEq α] {n:Nat} {ne:α->α->Bool} {a b:List α} (h:∀ x y,ne x y=!decide (x=y)) (hl:a.length < 1099511627776) (hn:a.length < n):Md n ne a b=some (decide (a=b)):=by
 unfold Md;by_cases hlen:a.length=b.length
 ·have h0:((a.length:Int) != (b.length:Int))=false:=by simp[hlen]
  rw[h0,aA];by_cases he:a=b
  ·subst he;have:=d9 (step:=aeA ne a a) (fun i=>((i:Nat):Int)) a.length (.inl ()) (fun i hi=>?_) ?_ n hn
   ·rw[show ((0:Nat):Int)=0 from rfl]at this;rw[this];simp
   ·have hi':decide (((i:Nat):Int) < (a.length:Int))=true:=(by simpa using hi);simp only[aeA,hi',au,aY hi,ah,h,decide_true,Bool.not_true,aA];rw[aN (by omega)]
   ·simp[aeA]
  ·
   have hp:∃ i,∃ (h1:i < a.length) (h2:i < b.length),a[i]≠b[i]∧∀ j (hj:j < i),a[j]'(by omega)=b[j]'(by omega):=by
    have hex:∃ i,∃ (h1:i < a.length) (h2:i < b.length),a[i]≠b[i]:=by
     refine dP fun hc=>he ?_;refine List.ext_getElem hlen fun i h1 h2=>?_;exact dP fun hne=>hc ⟨i,h1,h2,hne⟩
    have hmin:∀ k,(∃ i,i<=k∧∃ (h1:i < a.length) (h2:i < b.length),a[i]≠b[i])->∃ i,∃ (h1:i < a.length) (h2:i < b.length),a[i]≠b[i]∧∀ j (hj:j < i),a[j]'(by omega)=b[j]'(by omega):=by
     intro k
     induction k with
     |zero=>
      rintro⟨i,hi,h1,h2,h3⟩;have:i=0:=(by omega);subst this;exact⟨0,h1,h2,h3,fun j hj=>by omega⟩
     |succ k ih=>
      rintro⟨i,hi,h1,h2,h3⟩;by_cases hs:∃ i,i<=k∧∃ (h1:i < a.length) (h2:i < b.length),a[i]≠b[i]
      ·exact ih hs
      ·refine⟨i,h1,h2,h3,fun j hj=>?_⟩;exact dP fun hne=>hs ⟨j,by omega,by omega,by omega,hne⟩
    obtain⟨i,h1,h2,h3⟩:=hex;exact hmin i ⟨i,aU i,h1,h2,h3⟩
   obtain⟨i,h1,h2,h3,h4⟩:=hp;have:=d9 (step:=aeA ne a b) (fun i=>((i:Nat):Int)) i (.inr false) (fun j hj=>?_) ?_ n (by omega)
   ·rw[show ((0:Nat):Int)=0 from rfl]at this;rw[this];simp[he]
   ·have hj':decide (((j:Nat):Int) < (a.length:Int))=true:=(by simp;omega);simp only[aeA,hj',au,aY (show j < a.length by omega),aY (show j < b.length by omega),ah,h,h4 j hj,decide_true,Bool.not_true,aA];rw[aN (by omega)]
   ·have hi':decide (((i:Nat):Int) < (a.length:Int))=true:=(by simpa using h1);simp only[aeA,hi',au,aY h1,aY h2,ah,h,h3,decide_false,Bool.not_false,Option.map_some]
 ·have h0:((a.length:Int) != (b.length:Int))=true:=by simp;omega
  rw[h0,au];have:a≠b:=fun e=>hlen (by rw[e]);simp[this]
end
theorem vQ (p:Nat->Bool) (a b:Nat):(∃ i,a<=i∧i < b∧p i=true∧∀ j,a<=j->j < i->p j=false)∨∀ j,a<=j->j < b->p j=false:=by
 by_cases hab:a<=b
 ·obtain⟨k,rfl⟩:∃ k,b=a+k:=⟨b - a,by omega⟩;clear hab
  induction k with
  |zero=>exact .inr fun j h1 h2=>by omega
  |succ k ih=>
   rcases ih with ⟨i,h1,h2,h3,h4⟩ |h
   ·exact .inl ⟨i,h1,by omega,h3,h4⟩
   ·cases hp:p (a+k)with
    |true=>exact .inl ⟨a+k,by omega,by omega,hp,fun j h1 h2=>h j h1 h2⟩
    |false=>
     refine .inr fun j h1 h2=>?_;by_cases e:j=a+k
     ·subst e;exact hp
     ·exact h j h1 (by omega)
 ·exact .inr fun j h1 h2=>by omega
section
variable {α:Type}
def Uo (ne:α->α->Bool) (a0:List α) (v1:Int):(Int×Int×List α)->Option ((Int×Int×List α) ⊕ (Int×List α))
 |(v2,v3,v4)=>(bif (decide (v3 < ((((a0.length - (v1:Int).toNat):Nat):Int):Int)))then (bif inb v3 (a0.length - (v1:Int).toNat)then (at? v4 (((0+(v1:Int).toNat):Nat)+v3:Int)).bind fun x3=>bif inb (i64.wrap (v3 - 1)) (a0.length - (v1:Int).toNat)then (at? v4 (((0+(v1:Int).toNat):Nat)+(i64.wrap (v3 - 1)):Int)).bind fun x4=>(bif ne x3 x4 then bif inb v3 (a0.length - (v1:Int).toNat)then (at? v4 (((0+(v1:Int).toNat):Nat)+v3:Int)).bind fun x5=>bif inb v2 a0.length then (at? v4 ((0:Nat)+v2:Int)).bind fun _=>some ((i64.wrap (v2+1)),(v4.set ((0:Nat)+v2:Int).toNat x5))else none else none else some (v2,v4))else none else none:Option (Int×(List α))).bind fun (v5,v6)=>some (.inl (v5,(i64.wrap (v3+1)),v6))else some (.inr (v2,v4)))
def GU (eq ne:α->α->Bool) (n:Nat) (a0:List α):Int->Option (Int ⊕ (Unit ⊕ (Unit×List α)))
 |v1=>(bif (decide (v1 < (((a0.length:Nat):Int):Int)))then bif inb v1 a0.length then (at? a0 ((0:Nat)+v1:Int)).bind fun x1=>bif inb (i64.wrap (v1 - 1)) a0.length then (at? a0 ((0:Nat)+(i64.wrap (v1 - 1)):Int)).bind fun x2=>(bif eq x1 x2 then bif yA v1 ((a0.length:Nat):Int) a0.length then (iter (Uo ne a0 v1) n (v1,(1:Int),a0)).bind fun (w1,w2)=>bif yA w1 ((a0.length:Nat):Int) a0.length then bif yA 0 w1 a0.length then (bif eqL ((w1:Int).toNat) ((w1:Int).toNat)then bif eqL (sub (w2.take (0+(w1:Int).toNat)) 0 ((w1:Int).toNat)).length ((w1:Int).toNat)then some ((),(sub (w2.take (0+(w1:Int).toNat)) 0 ((w1:Int).toNat)))else none else none).map fun a=> .inr (.inr a)else none else none else none else some (.inl (i64.wrap (v1+1))))else none else none else some (.inr (.inl ())))
def X4 (eq ne:α->α->Bool) (n:Nat) (a0:List α):Option (Unit×List α):=
 (bif (decide (((a0.length:Nat):Int) < (2:Int)))then bif eqL a0.length a0.length then bif eqL (sub a0 0 a0.length).length a0.length then some ((),(sub a0 0 a0.length))else none else none else dX (iter (GU eq ne n a0) n (1:Int)) fun ()=>bif eqL a0.length a0.length then bif eqL (sub a0 0 a0.length).length a0.length then some ((),(sub a0 0 a0.length))else none else none)
def sM (ne:α->α->Bool) (s:α×List α) (x:α):α×List α:=(x,bif ne x s.1 then s.2++[x]else s.2)
def abZ (ne:α->α->Bool):List α->List α
 |[]=>[]
 |x::xs=>x::(xs.foldl (sM ne) (x,[])).2
theorem Uq (ne:α->α->Bool) (xs:List α) (x:α) (K:List α):xs.foldl (sM ne) (x,K)=((xs.foldl (sM ne) (x,[])).1,K++(xs.foldl (sM ne) (x,[])).2):=by
 induction xs generalizing x K with
 |nil=>simp
 |cons y xs ih=>
  simp only[foldl_cons,sM];cases ne y x with
  |true=>simp only[au,cu];rw[ih y (K++[y]),ih y [y]];simp
  |false=>simp only[aA];rw[ih y K]
theorem OJ (ne:α->α->Bool):∀ (xs:List α) (x:α),(∀ i (h:i+1 < (x::xs).length),ne ((x::xs)[i+1]) ((x::xs)[i])=true)->xs.foldl (sM ne) (x,[])=((x::xs).getLast (by simp),xs)
 |[],x,_=>rfl
 |y::xs,x,h=>by
  have h0:=h 0 (by simp);simp only[List.getElem_cons_succ,List.getElem_cons_zero]at h0;simp only[foldl_cons,sM,h0,au,cu];rw[Uq,OJ ne xs y (fun i hi=>h (i+1) (by simp at hi ⊢;omega))];simp
theorem Wo {eq ne:α->α->Bool} (hen:∀ x y,eq x y=!ne x y) {n:Nat} {l:List α} (hl:l.length < 1099511627776) (hn:l.length < n):X4 eq ne n l=some ((),abZ ne l):=by
 unfold X4;by_cases h2:l.length < 2
 ·have d:decide (((l.length:Nat):Int) < 2)=true:=by simp;omega
  simp only[d,au,aC,bE]
  match l,h2 with
  |[],_=>rfl
  |[x],_=>rfl
  |x::y::l,h2=>exact absurd h2 (by simp)
 ·have d:decide (((l.length:Nat):Int) < 2)=false:=by simp;omega
  simp only[d,aA,aC,au,bE];obtain⟨x0,xs,rfl⟩:∃ x xs,l=x::xs:=by
   cases l with
   |nil=>simp at h2
   |cons x xs=>exact⟨x,xs,rfl⟩
  generalize hL:(x0::xs)=l at*;have step1:∀ (i:Nat) (hi:i < l.length) (h1:1<=i),eq (l[i]) (l[i - 1]'(by omega))=false->GU eq ne n l (i:Int)=some (.inl ((i+1:Nat):Int)):=fun i hi h1 he=>by
   have d1:decide (((i:Nat):Int) < ((l.length:Nat):Int))=true:=(by simpa using hi);simp only[GU,d1,au,bC hi,dh hi,ah];rw[gB (by omega) (by omega)];simp only[bC (show i - 1 < l.length by omega),au,dh (show i - 1 < l.length by omega),ah,he,aA];rw[aN (by omega)]
  rcases vQ (fun i=>if h:i < l.length then eq (l[i]) (l[i - 1]'(by omega))else false) 1 l.length with ⟨i,h1,hi,hp,hq⟩ |hnone
  ·simp only[hi,dite_true]at hp;have hq':∀ j (hj1:1<=j) (hj:j < i),eq (l[j]'(by omega)) (l[j - 1]'(by omega))=false:=fun j hj1 hj=>by
    have:=hq j hj1 hj;simpa only[show j < l.length by omega,dite_true]using this
   have hK:∀ s:α×List α,((l.drop (i+1)).foldl (sM ne) s).2.length<=s.2.length+(l.length - (i+1)):=by
    have:∀ (ys:List α) (s:α×List α),(ys.foldl (sM ne) s).2.length<=s.2.length+ys.length:=by
     intro ys
     induction ys with
     |nil=>intro s;simp
     |cons y ys ih=>
      intro s;simp only[foldl_cons,bH];refine Nat.le_trans (ih _) ?_;simp only[sM];cases ne y s.1<;>simp<;>omega
    intro s;have:=this (l.drop (i+1)) s
    rwa [length_drop]at this
   have hin:iter (Uo ne l (i:Int)) n ((i:Int),(1:Int),l)=some (((i+((l.drop (i+1)).foldl (sM ne) (l[i],[])).2.length:Nat):Int),l.take i++((l.drop (i+1)).foldl (sM ne) (l[i],[])).2++l.drop (i+((l.drop (i+1)).foldl (sM ne) (l[i],[])).2.length)):=by
    have:=cZ (l:=l.drop (i+1)) (step:=Uo ne l (i:Int)) (fun j (s:α×List α)=>(((i+s.2.length:Nat):Int),((j+1:Nat):Int),l.take i++s.2++l.drop (i+s.2.length))) (fun x s=>sM ne s x) (fun s=>(((i+s.2.length:Nat):Int),l.take i++s.2++l.drop (i+s.2.length)))
     (fun j s=>s.2.length<=j∧l[i+j]? =some s.1) (fun j hj s hs=>?_) (fun s hs=>?_) n (by rw[length_drop];omega) (l[i],[]) ⟨aU 0,by simp[hi]⟩
    ·simpa using this
    ·obtain⟨s1,s2⟩:=hs;rw[length_drop]at hj;have hx:(l.drop (i+1))[j]'(by rw[length_drop];omega)=l[i+1+j]'(by omega):=(by rw[List.getElem_drop]);have gv:∀ k,s.2.length<=k->(l.take i++s.2++l.drop (i+s.2.length))[i+k]? =l[i+k]? :=fun k hk=>by
      rw[eZ (by simp[length_take];omega),List.getElem?_drop];congr 1;simp only[aZ,length_take];omega
     have tn:((i:Nat):Int).toNat=i:=(by simp);have d1:decide (((j+1:Nat):Int) < (((l.length - i:Nat)):Int))=true:=(by simp;omega);have a1:at? (l.take i++s.2++l.drop (i+s.2.length)) (((0+i:Nat):Int)+((j+1:Nat):Int))=some (l[i+1+j]'(by omega)):=by
      rw[show (((0+i:Nat):Int)+((j+1:Nat):Int))=((i+(j+1):Nat):Int)by omega,aex,gv (j+1) (by omega),show i+(j+1)=i+1+j by omega];exact gG (by omega)
     have a2:at? (l.take i++s.2++l.drop (i+s.2.length)) (((0+i:Nat):Int)+((j:Nat):Int))=some s.1:=(by rw[show (((0+i:Nat):Int)+((j:Nat):Int))=((i+j:Nat):Int)by omega,aex,gv j s1,s2]);have wp:i64.wrap (((j+1:Nat):Int) - 1)=((j:Nat):Int):=(by rw[gB (by omega) (by omega)];rfl);refine⟨?_,?_,?_⟩
     ·simp only[Uo,tn,d1,au,bC (show j+1 < l.length - i by omega),a1,ah,wp,bC (show j < l.length - i by omega),a2,hx,sM];cases hne:ne (l[i+1+j]'(by omega)) s.1 with
      |false=>simp only[aA,ah];rw[aN (by omega)]
      |true=>
       have g2:at? (l.take i++s.2++l.drop (i+s.2.length)) (((0:Nat):Int)+((i+s.2.length:Nat):Int))=some (l[i+s.2.length]'(by omega)):=by
        rw[gW,gv s.2.length (aU _)];exact gG (by omega)
       have z:(((0:Nat):Int)+((i+s.2.length:Nat):Int)).toNat=i+s.2.length:=(by omega);have st:(l.take i++s.2++l.drop (i+s.2.length)).set (i+s.2.length) (l[i+1+j]'(by omega))=l.take i++(s.2++[l[i+1+j]'(by omega)])++l.drop (i+(s.2++[l[i+1+j]'(by omega)]).length):=by
        rw[List.set_append_right _ _ (by simp[length_take];omega)];have e0:i+s.2.length - (l.take i++s.2).length=0:=(by simp[length_take];omega);rw[e0,List.drop_eq_getElem_cons (show i+s.2.length < l.length by omega)];simp only[List.set_cons_zero,aZ,List.length_singleton,aQ,List.singleton_append];rfl
       simp only[au,bC (show i+s.2.length < l.length by omega),g2,ah,z,st];rw[aN (by omega),aN (by omega),aZ,List.length_singleton];rfl
     ·simp only[sM];cases ne _ s.1<;>simp<;>omega
     ·simp only[sM];rw[show i+(j+1)=i+1+j by omega,hx];exact gG (by omega)
    ·obtain⟨s1,s2⟩:=hs;rw[length_drop]at s1 ⊢;have tn:((i:Nat):Int).toNat=i:=(by simp);have d1:decide (((l.length - (i+1)+1:Nat):Int) < (((l.length - i:Nat)):Int))=false:=(by simp;omega);simp only[Uo,tn,d1,aA]
   have hfin:GU eq ne n l (i:Int)=some (.inr (.inr ((),abZ ne l))):=by
    have d1:decide (((i:Nat):Int) < ((l.length:Nat):Int))=true:=(by simpa using hi);simp only[GU,d1,au,bC hi,dh hi,ah];rw[gB (by omega) (by omega)];simp only[bC (show i - 1 < l.length by omega),au,dh (show i - 1 < l.length by omega),ah,hp];have s0:yA ((i:Nat):Int) ((l.length:Nat):Int) l.length=true:=uY (by omega) (by omega) (by omega);have hk:=hK (l[i],[]);simp only[List.length_nil,Nat.zero_add]at hk;have res:l.take i++((l.drop (i+1)).foldl (sM ne) (l[i],[])).2=abZ ne l:=by
     have hd:ne (l[i]) (l[i - 1]'(by omega))=false:=by
      have:=hen (l[i]) (l[i - 1]'(by omega));rw[hp]at this;simpa using this.symm
     subst hL;obtain⟨m,rfl⟩:∃ m,i=m+1:=⟨i - 1,by omega⟩;have hm:m < xs.length:=(by simp at hi;omega);have e1:xs=xs.take m++xs[m]::xs.drop (m+1):=(by rw[<- List.drop_eq_getElem_cons hm,List.take_append_drop]);have e2:(xs.take m).foldl (sM ne) (x0,[])=((x0::xs.take m).getLast (by simp),xs.take m):=by
      refine OJ ne _ x0 fun k hk=>?_;simp only[bH,length_take]at hk;have h9:=hq' (k+1) (by omega) (by omega);rw[hen]at h9;have:ne ((x0::xs)[k+1]'(by simp;omega)) ((x0::xs)[k]'(by simp;omega))=true:=(by simpa using h9);have t:∀ q (hq:q < (x0::xs.take m).length),(x0::xs.take m)[q]=(x0::xs)[q]'(by simp[length_take]at hq ⊢;omega):=fun q hq=>by
       cases q with
       |zero=>rfl
       |succ q=>simp
      rw[t,t];exact this
     have lastE:(x0::xs.take m).getLast (by simp)=(x0::xs)[m+1 - 1]'(by simp;omega):=by
      rw[List.getLast_eq_getElem];simp only[bH,length_take,Nat.add_sub_cancel];have:min m xs.length=m:=Nat.min_eq_left (by omega);cases m with
      |zero=>simp
      |succ m=>simp[this]
     simp only[List.getElem_cons_succ,List.drop_succ_cons,List.take_succ_cons,List.cons_append,abZ,List.cons.injEq,true_and]
     conv=>rhs;rw[e1,List.foldl_append,e2]
     simp only[foldl_cons,sM];rw[lastE];simp only[List.getElem_cons_succ]at hd;rw[hd,aA,Uq ne (List.drop (m+1) xs) xs[m] (List.take m xs)]
    have tl:(l.take i++((l.drop (i+1)).foldl (sM ne) (l[i],[])).2).length=i+((l.drop (i+1)).foldl (sM ne) (l[i],[])).2.length:=(by rw[aZ,length_take,Nat.min_eq_left (by omega)]);simp only[s0,au,hin,ah];have s1:yA ((i+((l.drop (i+1)).foldl (sM ne) (l[i],[])).2.length:Nat):Int) ((l.length:Nat):Int) l.length=true:=uY (by omega) (by omega) (by omega);have s2:yA 0 ((i+((l.drop (i+1)).foldl (sM ne) (l[i],[])).2.length:Nat):Int) l.length=true:=uY (by omega) (by omega) (by omega);have tk:(l.take i++((l.drop (i+1)).foldl (sM ne) (l[i],[])).2++l.drop (i+((l.drop (i+1)).foldl (sM ne) (l[i],[])).2.length)).take (i+((l.drop (i+1)).foldl (sM ne) (l[i],[])).2.length)=l.take i++((l.drop (i+1)).foldl (sM ne) (l[i],[])).2:=(by rw[List.take_append_of_le_length (by rw[tl];exact aU _),<- tl,List.take_length]);simp only[s1,s2,au,Int.toNat_natCast,aC,Nat.zero_add,tk];rw[<- tl,bE,aC,au,res];rfl
   have:=d9 (step:=GU eq ne n l) (fun k=>((k+1:Nat):Int)) (i - 1) (.inr ((),abZ ne l)) (fun k hk=>?_) ?_ n (by omega)
   ·rw[show ((0+1:Nat):Int)=1 from rfl]at this;rw[this];rfl
   ·exact step1 (k+1) (by omega) (by omega) (hq' (k+1) (by omega) (by omega))
   ·rw[show i - 1+1=i by omega];exact hfin
  ·have hnone':∀ j (hj1:1<=j) (hj:j < l.length),eq (l[j]) (l[j - 1]'(by omega))=false:=fun j hj1 hj=>by
    have:=hnone j hj1 hj;simpa only[hj,dite_true]using this
   have:=d9 (step:=GU eq ne n l) (fun k=>((k+1:Nat):Int)) (l.length - 1) (.inl ()) (fun k hk=>?_) ?_ n (by omega)
   ·rw[show ((0+1:Nat):Int)=1 from rfl]at this;rw[this];simp only[fD];subst hL;simp only[abZ];rw[OJ ne xs x0 fun k hk=>?_];have h9:=hnone' (k+1) (by omega) hk;rw[hen]at h9;simp only[Nat.add_sub_cancel]at h9;simpa using h9
   ·exact step1 (k+1) (by omega) (by omega) (hnone' (k+1) (by omega) (by omega))
   ·rw[show l.length - 1+1=l.length by omega];simp[GU]
end
theorem ab0 (l:List Int):abZ (fun x y=>x != y) l=fM l:=by
 match l with
 |[]=>rfl
 |[x]=>rfl
 |x::y::l=>
  have ih:=ab0 (y::l);simp only[abZ,foldl_cons,sM,fM]at ih ⊢;by_cases h:y=x
  ·subst h;simp only[bne_self_eq_false,aA,beq_self_eq_true,au];exact ih
  ·have h1:(y != x)=true:=(by simp[h]);have h2:(x==y)=false:=(by simp[Ne.symm h]);simp only[h1,au,h2,aA,cu];rw[Uq,<- ih];simp
section
variable {α R:Type}
def ic (C:α->α->Option R) (q:R->Bool) (a0:(List α)) (a1:Int):(Int×(List α))->Option ((Int×(List α)) ⊕ (List α))
 |(v3,v4)=>((bif (decide (v3>(a1:Int)))then bif inb v3 a0.length then (at? v4 ((0:Nat)+v3:Int)).bind fun x1=>bif inb (i64.wrap (v3 - 1)) a0.length then (at? v4 ((0:Nat)+(i64.wrap (v3 - 1)):Int)).bind fun x2=>(C x1 x2).bind fun r1=>some (q r1)else none else none else some false):Option (Bool)).bind fun v5=>(bif v5 then bif inb (i64.wrap (v3 - 1)) a0.length then (at? v4 ((0:Nat)+(i64.wrap (v3 - 1)):Int)).bind fun x3=>bif inb v3 a0.length then (at? v4 ((0:Nat)+v3:Int)).bind fun x4=>bif inb v3 a0.length then (at? v4 ((0:Nat)+v3:Int)).bind fun x5=>bif inb (i64.wrap (v3 - 1)) a0.length then (at? (v4.set ((0:Nat)+v3:Int).toNat x3) ((0:Nat)+(i64.wrap (v3 - 1)):Int)).bind fun x6=>some (.inl ((i64.wrap (v3 - 1)),((v4.set ((0:Nat)+v3:Int).toNat x3).set ((0:Nat)+(i64.wrap (v3 - 1)):Int).toNat x4)))else none else none else none else none else some (.inr v4))
def ja (C:α->α->Option R) (q:R->Bool) (n:Nat) (a0:(List α)) (a1:Int) (a2:Int):(Int×(List α))->Option ((Int×(List α)) ⊕ (List α))
 |(v1,v2)=>(bif (decide (v1 < (a2:Int)))then (iter (ic C q a0 a1) n (v1,v2)).bind fun w1=>some (.inl ((i64.wrap (v1+1)),w1))else some (.inr v2))
def kZ (C:α->α->Option R) (q:R->Bool) (n:Nat) (a0:(List α)) (a1:Int) (a2:Int):Option (List α):=
 (iter (ja C q n a0 a1 a2) n ((i64.wrap (a1+1)),a0)).bind fun w2=>some w2
def fQ (C:α->α->Option R) (q:R->Bool) (a0:(List α)) (a2:Int) (a3:Int):(Int×(List α))->Option ((Int×(List α)) ⊕ ((List α) ⊕ (List α)))
 |(v1,v2)=>(bif (decide ((i64.wrap ((i64.wrap (2*v1))+1))>=(a2:Int)))then some (.inr (.inl v2))else (((bif (decide ((i64.wrap ((i64.wrap ((i64.wrap (2*v1))+1))+1)) < (a2:Int)))then bif inb (i64.wrap (a3+(i64.wrap ((i64.wrap (2*v1))+1)))) a0.length then (at? v2 ((0:Nat)+(i64.wrap (a3+(i64.wrap ((i64.wrap (2*v1))+1)))):Int)).bind fun x1=>bif inb (i64.wrap ((i64.wrap (a3+(i64.wrap ((i64.wrap (2*v1))+1))))+1)) a0.length then (at? v2 ((0:Nat)+(i64.wrap ((i64.wrap (a3+(i64.wrap ((i64.wrap (2*v1))+1))))+1)):Int)).bind fun x2=>(C x1 x2).bind fun r1=>some (q r1)else none else none else some false):Option (Bool)).bind fun v3=>(bif v3 then some (i64.wrap ((i64.wrap ((i64.wrap (2*v1))+1))+1))else some (i64.wrap ((i64.wrap (2*v1))+1))):Option (Int)).bind fun v4=>bif inb (i64.wrap (a3+v1)) a0.length then (at? v2 ((0:Nat)+(i64.wrap (a3+v1)):Int)).bind fun x3=>bif inb (i64.wrap (a3+v4)) a0.length then (at? v2 ((0:Nat)+(i64.wrap (a3+v4)):Int)).bind fun x4=>(C x3 x4).bind fun r2=>(bif (!(q r2))then (some v2).map fun a=> .inr (.inr a)else bif inb (i64.wrap (a3+v4)) a0.length then (at? v2 ((0:Nat)+(i64.wrap (a3+v4)):Int)).bind fun x5=>bif inb (i64.wrap (a3+v1)) a0.length then (at? v2 ((0:Nat)+(i64.wrap (a3+v1)):Int)).bind fun x6=>bif inb (i64.wrap (a3+v1)) a0.length then (at? v2 ((0:Nat)+(i64.wrap (a3+v1)):Int)).bind fun x7=>bif inb (i64.wrap (a3+v4)) a0.length then (at? (v2.set ((0:Nat)+(i64.wrap (a3+v1)):Int).toNat x5) ((0:Nat)+(i64.wrap (a3+v4)):Int)).bind fun x8=>some (.inl (v4,((v2.set ((0:Nat)+(i64.wrap (a3+v1)):Int).toNat x5).set ((0:Nat)+(i64.wrap (a3+v4)):Int).toNat x6)))else none else none else none else none)else none else none)
def rT (C:α->α->Option R) (q:R->Bool) (n:Nat) (a0:(List α)) (a1:Int) (a2:Int) (a3:Int):Option (List α):=
 dX (iter (fQ C q a0 a2 a3) n (a1,a0)) fun w1=>some w1
def sN (C:α->α->Option R) (q:R->Bool) (n:Nat) (a0:(List α)) (a1:Int) (a2:Int):(Int×(List α))->Option ((Int×(List α)) ⊕ (List α))
 |(v1,v2)=>(bif (decide (v1>=(0:Int)))then bif eqL a0.length v2.length then (rT C q n v2 v1 (i64.wrap (a2 - a1)) a1).bind fun r1=>some (.inl ((i64.wrap (v1 - 1)),r1))else none else some (.inr v2))
def sO (C:α->α->Option R) (q:R->Bool) (n:Nat) (a0:(List α)) (a1:Int):(Int×(List α))->Option ((Int×(List α)) ⊕ (List α))
 |(v3,v4)=>(bif (decide (v3>=(0:Int)))then bif inb (i64.wrap (a1+v3)) a0.length then (at? v4 ((0:Nat)+(i64.wrap (a1+v3)):Int)).bind fun x1=>bif inb a1 a0.length then (at? v4 ((0:Nat)+a1:Int)).bind fun x2=>bif inb a1 a0.length then (at? v4 ((0:Nat)+a1:Int)).bind fun x3=>bif inb (i64.wrap (a1+v3)) a0.length then (at? (v4.set ((0:Nat)+a1:Int).toNat x1) ((0:Nat)+(i64.wrap (a1+v3)):Int)).bind fun x4=>bif eqL a0.length ((v4.set ((0:Nat)+a1:Int).toNat x1).set ((0:Nat)+(i64.wrap (a1+v3)):Int).toNat x2).length then (rT C q n ((v4.set ((0:Nat)+a1:Int).toNat x1).set ((0:Nat)+(i64.wrap (a1+v3)):Int).toNat x2) 0 v3 a1).bind fun r2=>some (.inl ((i64.wrap (v3 - 1)),r2))else none else none else none else none else none else some (.inr v4))
def ze (C:α->α->Option R) (q:R->Bool) (n:Nat) (a0:(List α)) (a1:Int) (a2:Int):Option (List α):=
 bif 2 != 0 then (iter (sN C q n a0 a1 a2) n ((i64.wrap (Int.tdiv (i64.wrap ((i64.wrap (a2 - a1)) - 1)) 2)),a0)).bind fun w1=>(iter (sO C q n a0 a1) n ((i64.wrap ((i64.wrap (a2 - a1)) - 1)),w1)).bind fun w2=>some w2 else none
def j6 (npt:Int->Option Int) (xsh:Int->Option (Int×Int)) (a0:(List α)) (a1:Int) (a2:Int) (r1:Int):(Int×(List α)×Int)->Option ((Int×(List α)×Int) ⊕ (List α))
 |(v1,v2,v3)=>bif 4 != 0 then (bif (decide (v1<=((i64.wrap ((i64.wrap (a1+(i64.wrap ((i64.wrap (Int.tdiv (i64.wrap (a2 - a1)) 4))*2))))+1)):Int)))then (xsh v3).bind fun r2=>((bif (decide ((i64.wrap (bits .and .u64 r2.1 (IntKind.u64.wrap (r1 - 1))))>=((i64.wrap (a2 - a1)):Int)))then some (i64.wrap ((i64.wrap (bits .and .u64 r2.1 (IntKind.u64.wrap (r1 - 1)))) - (i64.wrap (a2 - a1))))else some (i64.wrap (bits .and .u64 r2.1 (IntKind.u64.wrap (r1 - 1))))):Option (Int)).bind fun v4=>bif inb (i64.wrap (a1+v4)) a0.length then (at? v2 ((0:Nat)+(i64.wrap (a1+v4)):Int)).bind fun x1=>bif inb v1 a0.length then (at? v2 ((0:Nat)+v1:Int)).bind fun x2=>bif inb v1 a0.length then (at? v2 ((0:Nat)+v1:Int)).bind fun x3=>bif inb (i64.wrap (a1+v4)) a0.length then (at? (v2.set ((0:Nat)+v1:Int).toNat x1) ((0:Nat)+(i64.wrap (a1+v4)):Int)).bind fun x4=>some (.inl ((i64.wrap (v1+1)),((v2.set ((0:Nat)+v1:Int).toNat x1).set ((0:Nat)+(i64.wrap (a1+v4)):Int).toNat x2),r2.2))else none else none else none else none else some (.inr v2))else none
def jH (npt:Int->Option Int) (xsh:Int->Option (Int×Int)) (n:Nat) (a0:(List α)) (a1:Int) (a2:Int):Option (List α):=
 (bif (decide ((i64.wrap (a2 - a1))>=(8:Int)))then (npt (i64.wrap (a2 - a1))).bind fun r1=>bif 4 != 0 then (iter (j6 npt xsh a0 a1 a2 r1) n ((i64.wrap ((i64.wrap (a1+(i64.wrap ((i64.wrap (Int.tdiv (i64.wrap (a2 - a1)) 4))*2)))) - 1)),a0,(IntKind.u64.wrap (i64.wrap (a2 - a1))))).bind fun w1=>some w1 else none else some a0)
def Bh (C:α->α->Option R) (q:R->Bool) (a0:(List α)) (a1:Int) (a2:Int) (a3:Int):Option (Int×Int×Int):=
 (at? a0 a2).bind fun x1=>(at? a0 a1).bind fun x2=>(C x1 x2).bind fun r1=>(bif q r1 then some (a2,a1,(i64.wrap (a3+1)))else some (a1,a2,a3))
def yC (C:α->α->Option R) (q:R->Bool) (a0:(List α)) (a1:Int) (a2:Int) (a3:Int) (a4:Int):Option (Int×Int):=
 (Bh C q a0 a1 a2 a4).bind fun r1=>(Bh C q a0 r1.2.1 a3 r1.2.2).bind fun r2=>(Bh C q a0 r1.1 r2.1 r2.2.2).bind fun r3=>some (r3.2.1,r3.2.2)
def fe (C:α->α->Option R) (q:R->Bool) (a0:(List α)) (a1:Int) (a2:Int):Option (Int×Int):=
 (yC C q a0 (i64.wrap (a1 - 1)) a1 (i64.wrap (a1+1)) a2).bind fun r1=>some (r1.1,r1.2)
def oU (C:α->α->Option R) (q:R->Bool) (a0:(List α)) (a1:Int) (a2:Int):Option (Int×Int):=
 bif 4 != 0 then bif 4 != 0 then bif 4 != 0 then ((bif (decide ((i64.wrap (a2 - a1))>=(8:Int)))then ((bif (decide ((i64.wrap (a2 - a1))>=(50:Int)))then (fe C q a0 (i64.wrap (a1+(i64.wrap ((i64.wrap (Int.tdiv (i64.wrap (a2 - a1)) 4))*1)))) 0).bind fun r1=>(fe C q a0 (i64.wrap (a1+(i64.wrap ((i64.wrap (Int.tdiv (i64.wrap (a2 - a1)) 4))*2)))) r1.2).bind fun r2=>(fe C q a0 (i64.wrap (a1+(i64.wrap ((i64.wrap (Int.tdiv (i64.wrap (a2 - a1)) 4))*3)))) r2.2).bind fun r3=>some (r1.1,r2.1,r3.1,r3.2)else some ((i64.wrap (a1+(i64.wrap ((i64.wrap (Int.tdiv (i64.wrap (a2 - a1)) 4))*1)))),(i64.wrap (a1+(i64.wrap ((i64.wrap (Int.tdiv (i64.wrap (a2 - a1)) 4))*2)))),(i64.wrap (a1+(i64.wrap ((i64.wrap (Int.tdiv (i64.wrap (a2 - a1)) 4))*3)))),(0:Int))):Option (Int×Int×Int×Int)).bind fun (v1,v2,v3,v4)=>(yC C q a0 v1 v2 v3 v4).bind fun r4=>some (r4.1,r4.2)else some ((i64.wrap (a1+(i64.wrap ((i64.wrap (Int.tdiv (i64.wrap (a2 - a1)) 4))*2)))),(0:Int))):Option (Int×Int)).bind fun (v5,v6)=>(bif (v6==(0:Int))then some (v5,(1:Int))else (bif (v6==(12:Int))then some (v5,(2:Int))else some (v5,(0:Int))))else none else none else none
def jD (a0:(List α)):(Int×Int×(List α))->Option ((Int×Int×(List α)) ⊕ (List α))
 |(v1,v2,v3)=>(bif (decide (v1 < (v2:Int)))then bif inb v2 a0.length then (at? v3 ((0:Nat)+v2:Int)).bind fun x1=>bif inb v1 a0.length then (at? v3 ((0:Nat)+v1:Int)).bind fun x2=>bif inb v1 a0.length then (at? v3 ((0:Nat)+v1:Int)).bind fun x3=>bif inb v2 a0.length then (at? (v3.set ((0:Nat)+v1:Int).toNat x1) ((0:Nat)+v2:Int)).bind fun x4=>some (.inl ((i64.wrap (v1+1)),(i64.wrap (v2 - 1)),((v3.set ((0:Nat)+v1:Int).toNat x1).set ((0:Nat)+v2:Int).toNat x2)))else none else none else none else none else some (.inr v3))
def kM (n:Nat) (a0:(List α)) (a1:Int) (a2:Int):Option (List α):=
 (iter (jD a0) n (a1,(i64.wrap (a2 - 1)),a0)).bind fun w1=>some w1
def eF (C:α->α->Option R) (q:R->Bool) (a0:(List α)) (a2:Int) (v3:(List α)):Int->Option (Int ⊕ Int)
 |v4=>((bif (decide (v4 < (a2:Int)))then bif inb v4 a0.length then (at? v3 ((0:Nat)+v4:Int)).bind fun x1=>bif inb (i64.wrap (v4 - 1)) a0.length then (at? v3 ((0:Nat)+(i64.wrap (v4 - 1)):Int)).bind fun x2=>(C x1 x2).bind fun r1=>some (!(q r1))else none else none else some false):Option (Bool)).bind fun v5=>(bif v5 then some (.inl (i64.wrap (v4+1)))else some (.inr v4))
def eG (C:α->α->Option R) (q:R->Bool) (a0:(List α)):(Int×(List α))->Option ((Int×(List α)) ⊕ (List α))
 |(v6,v7)=>(bif (decide (v6>=(1:Int)))then bif inb v6 a0.length then (at? v7 ((0:Nat)+v6:Int)).bind fun x7=>bif inb (i64.wrap (v6 - 1)) a0.length then (at? v7 ((0:Nat)+(i64.wrap (v6 - 1)):Int)).bind fun x8=>(C x7 x8).bind fun r2=>(bif (!(q r2))then some (.inr v7)else bif inb (i64.wrap (v6 - 1)) a0.length then (at? v7 ((0:Nat)+(i64.wrap (v6 - 1)):Int)).bind fun x9=>bif inb v6 a0.length then (at? v7 ((0:Nat)+v6:Int)).bind fun x10=>bif inb v6 a0.length then (at? v7 ((0:Nat)+v6:Int)).bind fun x11=>bif inb (i64.wrap (v6 - 1)) a0.length then (at? (v7.set ((0:Nat)+v6:Int).toNat x9) ((0:Nat)+(i64.wrap (v6 - 1)):Int)).bind fun x12=>some (.inl ((i64.wrap (v6 - 1)),((v7.set ((0:Nat)+v6:Int).toNat x9).set ((0:Nat)+(i64.wrap (v6 - 1)):Int).toNat x10)))else none else none else none else none)else none else none else some (.inr v7))
def dR (C:α->α->Option R) (q:R->Bool) (a0:(List α)) (a2:Int):(Int×(List α))->Option ((Int×(List α)) ⊕ (List α))
 |(v9,v10)=>(bif (decide (v9 < (a2:Int)))then bif inb v9 a0.length then (at? v10 ((0:Nat)+v9:Int)).bind fun x13=>bif inb (i64.wrap (v9 - 1)) a0.length then (at? v10 ((0:Nat)+(i64.wrap (v9 - 1)):Int)).bind fun x14=>(C x13 x14).bind fun r3=>(bif (!(q r3))then some (.inr v10)else bif inb (i64.wrap (v9 - 1)) a0.length then (at? v10 ((0:Nat)+(i64.wrap (v9 - 1)):Int)).bind fun x15=>bif inb v9 a0.length then (at? v10 ((0:Nat)+v9:Int)).bind fun x16=>bif inb v9 a0.length then (at? v10 ((0:Nat)+v9:Int)).bind fun x17=>bif inb (i64.wrap (v9 - 1)) a0.length then (at? (v10.set ((0:Nat)+v9:Int).toNat x15) ((0:Nat)+(i64.wrap (v9 - 1)):Int)).bind fun x18=>some (.inl ((i64.wrap (v9+1)),((v10.set ((0:Nat)+v9:Int).toNat x15).set ((0:Nat)+(i64.wrap (v9 - 1)):Int).toNat x16)))else none else none else none else none)else none else none else some (.inr v10))
def dS (C:α->α->Option R) (q:R->Bool) (n:Nat) (a0:(List α)) (a1:Int) (a2:Int):(Int×Int×(List α))->Option ((Int×Int×(List α)) ⊕ ((List α) ⊕ (Bool×(List α))))
 |(v1,v2,v3)=>(bif (decide (v2 < (5:Int)))then dX ((iter (eF C q a0 a2 v3) n v1).bind fun w1=>(bif (w1==(a2:Int))then ((some (true,v3)).map fun a=> .inr (.inr a)).map .inr else (bif (decide ((i64.wrap (a2 - a1)) < (50:Int)))then ((some (false,v3)).map fun a=> .inr (.inr a)).map .inr else bif inb (i64.wrap (w1 - 1)) a0.length then (at? v3 ((0:Nat)+(i64.wrap (w1 - 1)):Int)).bind fun x3=>bif inb w1 a0.length then (at? v3 ((0:Nat)+w1:Int)).bind fun x4=>bif inb w1 a0.length then (at? v3 ((0:Nat)+w1:Int)).bind fun x5=>bif inb (i64.wrap (w1 - 1)) a0.length then (at? (v3.set ((0:Nat)+w1:Int).toNat x3) ((0:Nat)+(i64.wrap (w1 - 1)):Int)).bind fun x6=>((bif (decide ((i64.wrap (w1 - a1))>=(2:Int)))then (iter (eG C q a0) n ((i64.wrap (w1 - 1)),((v3.set ((0:Nat)+w1:Int).toNat x3).set ((0:Nat)+(i64.wrap (w1 - 1)):Int).toNat x4))).bind fun w2=>some w2 else some ((v3.set ((0:Nat)+w1:Int).toNat x3).set ((0:Nat)+(i64.wrap (w1 - 1)):Int).toNat x4)):Option ((List α))).bind fun v8=>(bif (decide ((i64.wrap (a2 - w1))>=(2:Int)))then (iter (dR C q a0 a2) n ((i64.wrap (w1+1)),v8)).bind fun w3=>some (.inl (w1,w3))else some (.inl (w1,v8)))else none else none else none else none)):Option ((Int×(List α)) ⊕ _)) fun (v11,v12)=>some (.inl (v11,(i64.wrap (v2+1)),v12))else some (.inr (.inl v3)))
def fF (C:α->α->Option R) (q:R->Bool) (n:Nat) (a0:(List α)) (a1:Int) (a2:Int):Option (Bool×(List α)):=
 dX (iter (dS C q n a0 a1 a2) n ((i64.wrap (a1+1)),(0:Int),a0)) fun w4=>some (false,w4)
def mH (C:α->α->Option R) (q:R->Bool) (a0:(List α)) (a1:Int) (v2:Int) (v3:(List α)):Int->Option (Int ⊕ Int)
 |v4=>((bif (decide (v4<=(v2:Int)))then bif inb a1 a0.length then (at? v3 ((0:Nat)+a1:Int)).bind fun x5=>bif inb v4 a0.length then (at? v3 ((0:Nat)+v4:Int)).bind fun x6=>(C x5 x6).bind fun r1=>some (!(q r1))else none else none else some false):Option (Bool)).bind fun v5=>(bif v5 then some (.inl (i64.wrap (v4+1)))else some (.inr v4))
def mI (C:α->α->Option R) (q:R->Bool) (a0:(List α)) (a1:Int) (v3:(List α)) (w1:Int):Int->Option (Int ⊕ Int)
 |v6=>((bif (decide (w1<=(v6:Int)))then bif inb a1 a0.length then (at? v3 ((0:Nat)+a1:Int)).bind fun x7=>bif inb v6 a0.length then (at? v3 ((0:Nat)+v6:Int)).bind fun x8=>(C x7 x8).bind fun r2=>some (q r2)else none else none else some false):Option (Bool)).bind fun v7=>(bif v7 then some (.inl (i64.wrap (v6 - 1)))else some (.inr v6))
def iP (C:α->α->Option R) (q:R->Bool) (n:Nat) (a0:(List α)) (a1:Int):(Int×Int×(List α))->Option ((Int×Int×(List α)) ⊕ (Int×(List α)))
 |(v1,v2,v3)=>(iter (mH C q a0 a1 v2 v3) n v1).bind fun w1=>(iter (mI C q a0 a1 v3 w1) n v2).bind fun w2=>(bif (decide (w1>(w2:Int)))then some (.inr (w1,v3))else bif inb w2 a0.length then (at? v3 ((0:Nat)+w2:Int)).bind fun x9=>bif inb w1 a0.length then (at? v3 ((0:Nat)+w1:Int)).bind fun x10=>bif inb w1 a0.length then (at? v3 ((0:Nat)+w1:Int)).bind fun x11=>bif inb w2 a0.length then (at? (v3.set ((0:Nat)+w1:Int).toNat x9) ((0:Nat)+w2:Int)).bind fun x12=>some (.inl ((i64.wrap (w1+1)),(i64.wrap (w2 - 1)),((v3.set ((0:Nat)+w1:Int).toNat x9).set ((0:Nat)+w2:Int).toNat x10)))else none else none else none else none)
def jh (C:α->α->Option R) (q:R->Bool) (n:Nat) (a0:(List α)) (a1:Int) (a2:Int) (a3:Int):Option (Int×(List α)):=
 bif inb a3 a0.length then (at? a0 ((0:Nat)+a3:Int)).bind fun x1=>bif inb a1 a0.length then (at? a0 ((0:Nat)+a1:Int)).bind fun x2=>bif inb a1 a0.length then (at? a0 ((0:Nat)+a1:Int)).bind fun x3=>bif inb a3 a0.length then (at? (a0.set ((0:Nat)+a1:Int).toNat x1) ((0:Nat)+a3:Int)).bind fun x4=>(iter (iP C q n a0 a1) n ((i64.wrap (a1+1)),(i64.wrap (a2 - 1)),((a0.set ((0:Nat)+a1:Int).toNat x1).set ((0:Nat)+a3:Int).toNat x2))).bind fun (w3,w4)=>some (w3,w4)else none else none else none else none
def qx (C:α->α->Option R) (q:R->Bool) (a0:(List α)) (a1:Int) (a2:Int) (a3:Int) (x1:α) (x2:α):Int->Option (Int ⊕ Int)
 |v1=>((bif (decide (v1<=((i64.wrap (a2 - 1)):Int)))then bif inb v1 a0.length then (at? ((a0.set ((0:Nat)+a1:Int).toNat x1).set ((0:Nat)+a3:Int).toNat x2) ((0:Nat)+v1:Int)).bind fun x5=>bif inb a1 a0.length then (at? ((a0.set ((0:Nat)+a1:Int).toNat x1).set ((0:Nat)+a3:Int).toNat x2) ((0:Nat)+a1:Int)).bind fun x6=>(C x5 x6).bind fun r1=>some (q r1)else none else none else some false):Option (Bool)).bind fun v2=>(bif v2 then some (.inl (i64.wrap (v1+1)))else some (.inr v1))
def qy (C:α->α->Option R) (q:R->Bool) (a0:(List α)) (a1:Int) (a3:Int) (x1:α) (x2:α) (w1:Int):Int->Option (Int ⊕ Int)
 |v3=>((bif (decide (w1<=(v3:Int)))then bif inb v3 a0.length then (at? ((a0.set ((0:Nat)+a1:Int).toNat x1).set ((0:Nat)+a3:Int).toNat x2) ((0:Nat)+v3:Int)).bind fun x7=>bif inb a1 a0.length then (at? ((a0.set ((0:Nat)+a1:Int).toNat x1).set ((0:Nat)+a3:Int).toNat x2) ((0:Nat)+a1:Int)).bind fun x8=>(C x7 x8).bind fun r2=>some (!(q r2))else none else none else some false):Option (Bool)).bind fun v4=>(bif v4 then some (.inl (i64.wrap (v3 - 1)))else some (.inr v3))
def kN (C:α->α->Option R) (q:R->Bool) (a0:(List α)) (a1:Int) (v6:Int) (v7:(List α)):Int->Option (Int ⊕ Int)
 |v8=>((bif (decide (v8<=(v6:Int)))then bif inb v8 a0.length then (at? v7 ((0:Nat)+v8:Int)).bind fun x17=>bif inb a1 a0.length then (at? v7 ((0:Nat)+a1:Int)).bind fun x18=>(C x17 x18).bind fun r3=>some (q r3)else none else none else some false):Option (Bool)).bind fun v9=>(bif v9 then some (.inl (i64.wrap (v8+1)))else some (.inr v8))
def kP (C:α->α->Option R) (q:R->Bool) (a0:(List α)) (a1:Int) (v7:(List α)) (w3:Int):Int->Option (Int ⊕ Int)
 |v10=>((bif (decide (w3<=(v10:Int)))then bif inb v10 a0.length then (at? v7 ((0:Nat)+v10:Int)).bind fun x19=>bif inb a1 a0.length then (at? v7 ((0:Nat)+a1:Int)).bind fun x20=>(C x19 x20).bind fun r4=>some (!(q r4))else none else none else some false):Option (Bool)).bind fun v11=>(bif v11 then some (.inl (i64.wrap (v10 - 1)))else some (.inr v10))
def nD (C:α->α->Option R) (q:R->Bool) (n:Nat) (a0:(List α)) (a1:Int):(Int×Int×(List α))->Option ((Int×Int×(List α)) ⊕ (Int×(List α)))
 |(v5,v6,v7)=>(iter (kN C q a0 a1 v6 v7) n v5).bind fun w3=>(iter (kP C q a0 a1 v7 w3) n v6).bind fun w4=>(bif (decide (w3>(w4:Int)))then some (.inr (w4,v7))else bif inb w4 a0.length then (at? v7 ((0:Nat)+w4:Int)).bind fun x21=>bif inb w3 a0.length then (at? v7 ((0:Nat)+w3:Int)).bind fun x22=>bif inb w3 a0.length then (at? v7 ((0:Nat)+w3:Int)).bind fun x23=>bif inb w4 a0.length then (at? (v7.set ((0:Nat)+w3:Int).toNat x21) ((0:Nat)+w4:Int)).bind fun x24=>some (.inl ((i64.wrap (w3+1)),(i64.wrap (w4 - 1)),((v7.set ((0:Nat)+w3:Int).toNat x21).set ((0:Nat)+w4:Int).toNat x22)))else none else none else none else none)
def rA (C:α->α->Option R) (q:R->Bool) (n:Nat) (a0:(List α)) (a1:Int) (a2:Int) (a3:Int):Option (Int×Bool×(List α)):=
 bif inb a3 a0.length then (at? a0 ((0:Nat)+a3:Int)).bind fun x1=>bif inb a1 a0.length then (at? a0 ((0:Nat)+a1:Int)).bind fun x2=>bif inb a1 a0.length then (at? a0 ((0:Nat)+a1:Int)).bind fun x3=>bif inb a3 a0.length then (at? (a0.set ((0:Nat)+a1:Int).toNat x1) ((0:Nat)+a3:Int)).bind fun x4=>(iter (qx C q a0 a1 a2 a3 x1 x2) n (i64.wrap (a1+1))).bind fun w1=>(iter (qy C q a0 a1 a3 x1 x2 w1) n (i64.wrap (a2 - 1))).bind fun w2=>(bif (decide (w1>(w2:Int)))then bif inb a1 a0.length then (at? ((a0.set ((0:Nat)+a1:Int).toNat x1).set ((0:Nat)+a3:Int).toNat x2) ((0:Nat)+a1:Int)).bind fun x9=>bif inb w2 a0.length then (at? ((a0.set ((0:Nat)+a1:Int).toNat x1).set ((0:Nat)+a3:Int).toNat x2) ((0:Nat)+w2:Int)).bind fun x10=>bif inb w2 a0.length then (at? ((a0.set ((0:Nat)+a1:Int).toNat x1).set ((0:Nat)+a3:Int).toNat x2) ((0:Nat)+w2:Int)).bind fun x11=>bif inb a1 a0.length then (at? (((a0.set ((0:Nat)+a1:Int).toNat x1).set ((0:Nat)+a3:Int).toNat x2).set ((0:Nat)+w2:Int).toNat x9) ((0:Nat)+a1:Int)).bind fun x12=>some (w2,true,((((a0.set ((0:Nat)+a1:Int).toNat x1).set ((0:Nat)+a3:Int).toNat x2).set ((0:Nat)+w2:Int).toNat x9).set ((0:Nat)+a1:Int).toNat x10))else none else none else none else none else bif inb w2 a0.length then (at? ((a0.set ((0:Nat)+a1:Int).toNat x1).set ((0:Nat)+a3:Int).toNat x2) ((0:Nat)+w2:Int)).bind fun x13=>bif inb w1 a0.length then (at? ((a0.set ((0:Nat)+a1:Int).toNat x1).set ((0:Nat)+a3:Int).toNat x2) ((0:Nat)+w1:Int)).bind fun x14=>bif inb w1 a0.length then (at? ((a0.set ((0:Nat)+a1:Int).toNat x1).set ((0:Nat)+a3:Int).toNat x2) ((0:Nat)+w1:Int)).bind fun x15=>bif inb w2 a0.length then (at? (((a0.set ((0:Nat)+a1:Int).toNat x1).set ((0:Nat)+a3:Int).toNat x2).set ((0:Nat)+w1:Int).toNat x13) ((0:Nat)+w2:Int)).bind fun x16=>(iter (nD C q n a0 a1) n ((i64.wrap (w1+1)),(i64.wrap (w2 - 1)),((((a0.set ((0:Nat)+a1:Int).toNat x1).set ((0:Nat)+a3:Int).toNat x2).set ((0:Nat)+w1:Int).toNat x13).set ((0:Nat)+w2:Int).toNat x14))).bind fun (w5,w6)=>bif inb a1 a0.length then (at? w6 ((0:Nat)+a1:Int)).bind fun x25=>bif inb w5 a0.length then (at? w6 ((0:Nat)+w5:Int)).bind fun x26=>bif inb w5 a0.length then (at? w6 ((0:Nat)+w5:Int)).bind fun x27=>bif inb a1 a0.length then (at? (w6.set ((0:Nat)+w5:Int).toNat x25) ((0:Nat)+a1:Int)).bind fun x28=>some (w5,false,((w6.set ((0:Nat)+w5:Int).toNat x25).set ((0:Nat)+a1:Int).toNat x26))else none else none else none else none else none else none else none else none)else none else none else none else none
def rU (C:α->α->Option R) (q:R->Bool) (npt:Int->Option Int) (xsh:Int->Option (Int×Int)) (n:Nat) (rc:((List α))->(Int)->(Int)->(Int)->Option (List α)) (a0:(List α)):(Int×Int×Int×Bool×Bool×(List α))->Option ((Int×Int×Int×Bool×Bool×(List α)) ⊕ (Unit ⊕ (List α)))
 |(v1,v2,v3,v4,v5,v6)=>(bif (decide ((i64.wrap (v2 - v1))<=(12:Int)))then bif eqL a0.length v6.length then (kZ C q n v6 v1 v2).bind fun r1=>(some r1).map fun a=> .inr (.inr a)else none else (bif (v3==(0:Int))then bif eqL a0.length v6.length then (ze C q n v6 v1 v2).bind fun r2=>(some r2).map fun a=> .inr (.inr a)else none else ((bif (!v4)then bif eqL a0.length v6.length then (jH npt xsh n v6 v1 v2).bind fun r3=>some ((i64.wrap (v3 - 1)),r3)else none else some (v3,v6)):Option (Int×(List α))).bind fun (v7,v8)=>bif eqL (sub v8 0 a0.length).length a0.length then (oU C q (sub v8 0 a0.length) v1 v2).bind fun r4=>((bif (r4.2==(2:Int))then bif eqL a0.length v8.length then (kM n v8 v1 v2).bind fun r5=>some ((i64.wrap ((i64.wrap (v2 - 1)) - (i64.wrap (r4.1 - v1)))),(1:Int),r5)else none else some (r4.1,r4.2,v8)):Option (Int×Int×(List α))).bind fun (v9,v10,v11)=>dX (((bif v4 then (bif v5 then some (v10==(1:Int))else some false)else some false):Option (Bool)).bind fun v12=>(bif v12 then bif eqL a0.length v11.length then (fF C q n v11 v1 v2).bind fun r6=>(bif r6.1 then ((some r6.2).map fun a=> .inr (.inr a)).map .inr else some (.inl r6.2))else none else some (.inl v11))) fun (v13:(List α))=>((bif (decide (v1>(0:Int)))then bif inb (i64.wrap (v1 - 1)) a0.length then (at? v13 ((0:Nat)+(i64.wrap (v1 - 1)):Int)).bind fun x1=>bif inb v9 a0.length then (at? v13 ((0:Nat)+v9:Int)).bind fun x2=>(C x1 x2).bind fun r7=>some (!(q r7))else none else none else some false):Option (Bool)).bind fun v14=>(bif v14 then bif eqL a0.length v13.length then (jh C q n v13 v1 v2 v9).bind fun r8=>some (.inl (r8.1,v2,v7,v4,v5,r8.2))else none else bif eqL a0.length v13.length then (rA C q n v13 v1 v2 v9).bind fun r9=>bif 8 != 0 then (bif (decide ((i64.wrap (r9.1 - v1)) < ((i64.wrap (v2 - r9.1)):Int)))then bif eqL a0.length r9.2.2.length then (rc r9.2.2 v1 r9.1 v7).bind fun r10=>some (.inl ((i64.wrap (r9.1+1)),v2,v7,(decide ((i64.wrap (r9.1 - v1))>=((i64.wrap (Int.tdiv (i64.wrap (v2 - v1)) 8)):Int))),r9.2.1,r10))else none else bif eqL a0.length r9.2.2.length then (rc r9.2.2 (i64.wrap (r9.1+1)) v2 v7).bind fun r11=>some (.inl (v1,r9.1,v7,(decide ((i64.wrap (v2 - r9.1))>=((i64.wrap (Int.tdiv (i64.wrap (v2 - v1)) 8)):Int))),r9.2.1,r11))else none)else none else none)else none))
def jI (C:α->α->Option R) (q:R->Bool) (npt:Int->Option Int) (xsh:Int->Option (Int×Int)) (n:Nat) (rc:((List α))->(Int)->(Int)->(Int)->Option (List α)) (a0:(List α)) (a1:Int) (a2:Int) (a3:Int):Option (List α):=
 dX (iter (rU C q npt xsh n rc a0) n (a1,a2,a3,true,true,a0)) fun ()=>none
def iQ (C:α->α->Option R) (q:R->Bool) (npt:Int->Option Int) (xsh:Int->Option (Int×Int)) (n:Nat):Nat->((List α))->(Int)->(Int)->(Int)->Option (List α)
 | 0=>fun _ _ _ _=>none
 |m+1=>jI C q npt xsh n (iQ C q npt xsh n m)
end
open Go.RowKit Go.Sort
section
variable {α R:Type} [Inhabited α]
theorem fT {d:Array α} {i:Nat} (h:i < d.size):at? d.toList (((0:Nat):Int)+(i:Int))=some d[i]! :=by rw[gW,Array.getElem?_toList,Array.getElem?_eq_getElem h,getElem!_pos d i h]
theorem aj6 {d:Array α} {i:Nat} (h:i < d.size):at? d.toList (i:Int)=some d[i]! :=by rw[aex,Array.getElem?_toList,Array.getElem?_eq_getElem h,getElem!_pos d i h]
omit [Inhabited α]in
theorem EI (d:Array α) (i:Nat) (x:α):d.toList.set (((0:Nat):Int)+(i:Int)).toNat x=(d.setIfInBounds i x).toList:=by rw[show (((0:Nat):Int)+(i:Int)).toNat=i by omega,Array.toList_setIfInBounds]
theorem GV {d:Array α} {i k:Nat} {x:α} (h:i < d.size):at? (d.setIfInBounds k x).toList (((0:Nat):Int)+(i:Int))=some (d.setIfInBounds k x)[i]! :=fT (by simpa using h)
theorem GX (d:Array α) (i j:Nat):((d.setIfInBounds i d[j]!).setIfInBounds j d[i]!).toList=(swp d i j).toList:=rfl
theorem w1 {i:Nat} (h0:0 < i) (h:i<=9223372036854775807):i64.wrap ((i:Int) - 1)=((i - 1:Nat):Int):=gB h0 h
theorem OL {i j:Nat} (h:i+j<=9223372036854775807):i64.wrap ((i:Int)+(j:Int))=((i+j:Nat):Int):=by rw[bB (by omega) (by omega)];omega
theorem GY {i j:Nat} (h0:j<=i) (h:i<=9223372036854775807):i64.wrap ((i:Int) - (j:Int))=((i - j:Nat):Int):=by rw[bB (by omega) (by omega)];omega
theorem jT {i n:Nat} (h:i < n):inb (i:Int) n=true:=by simp[h]
theorem Ur {a b:Nat} (h:a=b):eqL a b=true:=by simp[eqL,h]
variable {C:α->α->Option R} {q:R->Bool} {f:α->α->R} {lt:α->α->Bool}
theorem qz (a:Nat):∀ (j:Nat) (d:Array α),(insInner lt a j d).size=d.size
 | 0,d=>rfl
 |j+1,d=>by
  simp only[insInner];split
  ·rw[qz a j,size_swp]
  ·rfl
theorem X5 (hC:∀ x y,C x y=some (f x y)) (hq:∀ x y,q (f x y)=lt x y) (a0:List α) (a:Nat):∀ (j:Nat) (d:Array α) (n:Nat),a0.length=d.size->d.size < 4611686018427387904->j < d.size->j < n->
 iter (ic C q a0 (a:Int)) n ((j:Int),d.toList)=some (insInner lt a j d).toList
 | 0,d,n,h0,hs,hj,hn=>by
  obtain⟨n,rfl⟩:∃ m,n=m+1:=⟨n - 1,by omega⟩;refine bF ?_;have c:decide (((0:Nat):Int)>(a:Int))=false:=by simp
  simp only[ic,c,aA,ah,insInner]
 |j+1,d,n,h0,hs,hj,hn=>by
  obtain⟨n,rfl⟩:∃ m,n=m+1:=⟨n - 1,by omega⟩;have e:i64.wrap (((j+1:Nat):Int) - 1)=((j:Nat):Int):=by rw[w1 (by omega) (by omega)];rfl
  have hj2:j < d.size:=by omega
  have i1:inb (((j+1:Nat)):Int) a0.length=true:=jT (by omega);have i2:inb ((j:Nat):Int) a0.length=true:=jT (by omega);by_cases c:j+1>a
  ·have c1:decide (((j+1:Nat):Int)>(a:Int))=true:=(by simp;omega);cases hl:lt d[j+1]! d[j]! with
   |true=>
    have s:ic C q a0 (a:Int) (((j+1:Nat):Int),d.toList)=some (.inl (((j:Nat):Int),(swp d (j+1) j).toList)):=(by simp only[ic,c1,au,i1,fT hj,ah,e,i2,fT hj2,hC,hq,hl,EI,GV hj2,GX]);rw[dK s,X5 hC hq a0 a j (swp d (j+1) j) n (by rw[size_swp];exact h0) (by rw[size_swp];exact hs) (by rw[size_swp];exact hj2) (by omega)];simp[insInner,c,hl]
   |false=>
    refine (bF (o:=d.toList) ?_).trans ?_
    ·simp only[ic,c1,au,i1,fT hj,ah,e,i2,fT hj2,hC,hq,hl,aA]
    ·simp[insInner,hl]
  ·have c1:decide (((j+1:Nat):Int)>(a:Int))=false:=(by simp;omega);refine (bF (o:=d.toList) ?_).trans ?_
   ·simp only[ic,c1,aA,ah]
   ·simp[insInner,c]
theorem ag5 (hC:∀ x y,C x y=some (f x y)) (hq:∀ x y,q (f x y)=lt x y) (a0:List α) (a b:Nat) {n:Nat}:∀ (m i:Nat) (d:Array α) (k:Nat),b - i<=m->a0.length=d.size->d.size < 4611686018427387904->b<=d.size->d.size < n->m < k->
 iter (ja C q n a0 (a:Int) (b:Int)) k ((i:Int),d.toList)=some (insOuter lt a b i d).toList:=by
 intro m
 induction m with
 |zero=>
  intro i d k hm h0 hs hb hn hk;obtain⟨k,rfl⟩:∃ m,k=m+1:=⟨k - 1,by omega⟩;have c:¬ i < b:=by omega
  have c1:decide (((i:Nat):Int) < (b:Int))=false:=by simp;omega
  rw[insOuter,aD c];exact bF (by simp only[ja,c1,aA])
 |succ m ih=>
  intro i d k hm h0 hs hb hn hk;obtain⟨k,rfl⟩:∃ m,k=m+1:=⟨k - 1,by omega⟩;by_cases c:i < b
  ·have c1:decide (((i:Nat):Int) < (b:Int))=true:=(by simpa using c);have s:ja C q n a0 (a:Int) (b:Int) ((i:Int),d.toList)=some (.inl (((i+1:Nat):Int),(insInner lt a i d).toList)):=by
    simp only[ja,c1,au,X5 hC hq a0 a i d n h0 hs (by omega) (by omega),ah];rw[aN (by omega)]
   rw[dK s,ih (i+1) _ k (by omega) (by rw[qz];exact h0) (by rw[qz];exact hs) (by rw[qz];exact hb) (by rw[qz];exact hn) (by omega)]
   conv=>rhs;rw[insOuter,aJ c]
  ·have c1:decide (((i:Nat):Int) < (b:Int))=false:=(by simp;omega);rw[insOuter,aD c];exact bF (by simp only[ja,c1,aA])
theorem Me (hC:∀ x y,C x y=some (f x y)) (hq:∀ x y,q (f x y)=lt x y) {d:Array α} {a b n:Nat} (hs:d.size < 4611686018427387904) (hb:b<=d.size) (ha:a<=b) (hn:d.size < n):
 kZ C q n d.toList (a:Int) (b:Int)=some (insertionSort lt d a b).toList:=by
 unfold kZ insertionSort;rw[aN (by omega),ag5 hC hq d.toList a b b (a+1) d n (by omega) (by simp) hs hb hn (by omega)];rfl
theorem size_siftDown (hi first:Nat):∀ (m root:Nat) (d:Array α),hi - root<=m->(siftDown lt hi first root d).size=d.size:=by
 intro m
 induction m with
 |zero=>
  intro root d hm;rw[siftDown,dif_pos (by omega)]
 |succ m ih=>
  intro root d hm;rw[siftDown];split
  ·rfl
  ·split
   ·split
    ·rfl
    ·split
     ·rw[ih _ _ (by omega),size_swp]
     ·rfl
   ·split
    ·rfl
    ·rw[ih _ _ (by omega),size_swp]
theorem aeB (hC:∀ x y,C x y=some (f x y)) (hq:∀ x y,q (f x y)=lt x y) (a0:List α) (hi first:Nat):∀ (m root:Nat) (d:Array α) (k:Nat),hi - root<=m->a0.length=d.size->d.size < 1152921504606846976->first+hi<=d.size->root<=d.size->m < k->
 ∃ r:List α ⊕ List α,iter (fQ C q a0 (hi:Int) (first:Int)) k ((root:Int),d.toList)=some r∧(r= .inl (siftDown lt hi first root d).toList∨r= .inr (siftDown lt hi first root d).toList):=by
 intro m
 induction m with
 |zero=>
  intro root d k hm h0 hs hb hr hk;obtain⟨k,rfl⟩:∃ m,k=m+1:=⟨k - 1,by omega⟩;have e1:i64.wrap (2*(root:Int))=((2*root:Nat):Int):=by rw[bB (by omega) (by omega)];omega
  have e2:i64.wrap (((2*root:Nat):Int)+1)=((2*root+1:Nat):Int):=aN (by omega);have c:decide (((2*root+1:Nat):Int)>=(hi:Int))=true:=by simp;omega
  refine⟨.inl d.toList,bF ?_,.inl ?_⟩
  ·simp only[fQ,e1,e2,c,au]
  ·rw[siftDown,dif_pos (by omega)]
 |succ m ih=>
  intro root d k hm h0 hs hb hr hk;obtain⟨k,rfl⟩:∃ m,k=m+1:=⟨k - 1,by omega⟩;have e1:i64.wrap (2*(root:Int))=((2*root:Nat):Int):=by rw[bB (by omega) (by omega)];omega
  have e2:i64.wrap (((2*root:Nat):Int)+1)=((2*root+1:Nat):Int):=aN (by omega);by_cases hc:2*root+1>=hi
  ·have c:decide (((2*root+1:Nat):Int)>=(hi:Int))=true:=(by simp;omega);refine⟨.inl d.toList,bF ?_,.inl ?_⟩
   ·simp only[fQ,e1,e2,c,au]
   ·rw[siftDown,dif_pos hc]
  ·have c:decide (((2*root+1:Nat):Int)>=(hi:Int))=false:=(by simp;omega);have e3:i64.wrap (((2*root+1:Nat):Int)+1)=((2*root+2:Nat):Int):=aN (by omega);have e4:i64.wrap ((first:Int)+((2*root+1:Nat):Int))=((first+(2*root+1):Nat):Int):=OL (by omega);have e5:i64.wrap (((first+(2*root+1):Nat):Int)+1)=((first+(2*root+1)+1:Nat):Int):=aN (by omega);have e6:i64.wrap ((first:Int)+((2*root+2:Nat):Int))=((first+(2*root+2):Nat):Int):=OL (by omega);have e7:i64.wrap ((first:Int)+(root:Int))=((first+root:Nat):Int):=OL (by omega);have hr0:first+root < d.size:=by omega
   have hr1:first+(2*root+1) < d.size:=by omega
   have i0:inb ((first+root:Nat):Int) a0.length=true:=jT (by omega);have i1:inb ((first+(2*root+1):Nat):Int) a0.length=true:=jT (by omega);by_cases h2:2*root+2 < hi
   ·have hr2:first+(2*root+2) < d.size:=by omega
    have hr3:first+(2*root+1)+1 < d.size:=by omega
    have i2:inb ((first+(2*root+2):Nat):Int) a0.length=true:=jT (by omega);have i3:inb ((first+(2*root+1)+1:Nat):Int) a0.length=true:=jT (by omega);have c2:decide (((2*root+2:Nat):Int) < (hi:Int))=true:=(by simp;omega);have h2':decide (2*root+1+1 < hi)=true:=(by simpa using h2);cases hl:lt d[first+(2*root+1)]! d[first+(2*root+1)+1]! with
    |true=>
     cases hl2:lt d[first+root]! d[first+(2*root+2)]! with
     |false=>
      refine⟨.inr d.toList,bF ?_,.inr ?_⟩
      ·simp only[fQ,e1,e2,c,aA,e3,c2,au,e4,i1,fT hr1,ah,e5,i3,fT hr3,hC,hq,hl,e6,i2,e7,i0,fT hr0,fT hr2,hl2,Bool.not_false,Option.map_some]
      ·rw[siftDown,dif_neg hc,aJ (by rw[h2',hl];rfl),aJ (by rw[hl2];rfl)]
     |true=>
      have s:fQ C q a0 (hi:Int) (first:Int) ((root:Int),d.toList)=some (.inl (((2*root+2:Nat):Int),(swp d (first+root) (first+(2*root+2))).toList)):=(by simp only[fQ,e1,e2,c,aA,e3,c2,au,e4,i1,fT hr1,ah,e5,i3,fT hr3,hC,hq,hl,e6,i2,e7,i0,fT hr0,fT hr2,hl2,Bool.not_true,EI,GV hr2,GX]);obtain⟨r,g1,g2⟩:=ih (2*root+2) (swp d (first+root) (first+(2*root+2))) k (by omega) (by rw[size_swp];exact h0) (by rw[size_swp];exact hs) (by rw[size_swp];exact hb) (by rw[size_swp];omega) (by omega);refine⟨r,by rw[dK s];exact g1,?_⟩;rw[siftDown,dif_neg hc,aJ (by rw[h2',hl];rfl),aD (by rw[hl2];simp),dif_pos h2];exact g2
    |false=>
     cases hl2:lt d[first+root]! d[first+(2*root+1)]! with
     |false=>
      refine⟨.inr d.toList,bF ?_,.inr ?_⟩
      ·simp only[fQ,e1,e2,c,aA,e3,c2,au,e4,i1,fT hr1,ah,e5,i3,fT hr3,hC,hq,hl,e7,i0,fT hr0,hl2,Bool.not_false,Option.map_some]
      ·rw[siftDown,dif_neg hc,aD (by rw[hl];simp),aJ (by rw[hl2];rfl)]
     |true=>
      have s:fQ C q a0 (hi:Int) (first:Int) ((root:Int),d.toList)=some (.inl (((2*root+1:Nat):Int),(swp d (first+root) (first+(2*root+1))).toList)):=(by simp only[fQ,e1,e2,c,aA,e3,c2,au,e4,i1,fT hr1,ah,e5,i3,fT hr3,hC,hq,hl,e7,i0,fT hr0,hl2,Bool.not_true,EI,GV hr1,GX]);obtain⟨r,g1,g2⟩:=ih (2*root+1) (swp d (first+root) (first+(2*root+1))) k (by omega) (by rw[size_swp];exact h0) (by rw[size_swp];exact hs) (by rw[size_swp];exact hb) (by rw[size_swp];omega) (by omega);refine⟨r,by rw[dK s];exact g1,?_⟩;rw[siftDown,dif_neg hc,aD (by rw[hl];simp),aD (by rw[hl2];simp)];exact g2
   ·have c2:decide (((2*root+2:Nat):Int) < (hi:Int))=false:=(by simp;omega);have h2':decide (2*root+1+1 < hi)=false:=(by simp;omega);cases hl2:lt d[first+root]! d[first+(2*root+1)]! with
    |false=>
     refine⟨.inr d.toList,bF ?_,.inr ?_⟩
     ·simp only[fQ,e1,e2,c,aA,e3,c2,au,e4,i1,fT hr1,ah,hC,hq,e7,i0,fT hr0,hl2,Bool.not_false,Option.map_some]
     ·rw[siftDown,dif_neg hc,aD (by rw[h2'];simp),aJ (by rw[hl2];rfl)]
    |true=>
     have s:fQ C q a0 (hi:Int) (first:Int) ((root:Int),d.toList)=some (.inl (((2*root+1:Nat):Int),(swp d (first+root) (first+(2*root+1))).toList)):=(by simp only[fQ,e1,e2,c,aA,e3,c2,au,e4,i1,fT hr1,ah,hC,hq,e7,i0,fT hr0,hl2,Bool.not_true,EI,GV hr1,GX]);obtain⟨r,g1,g2⟩:=ih (2*root+1) (swp d (first+root) (first+(2*root+1))) k (by omega) (by rw[size_swp];exact h0) (by rw[size_swp];exact hs) (by rw[size_swp];exact hb) (by rw[size_swp];omega) (by omega);refine⟨r,by rw[dK s];exact g1,?_⟩;rw[siftDown,dif_neg hc,aD (by rw[h2'];simp),aD (by rw[hl2];simp)];exact g2
theorem Mf (hC:∀ x y,C x y=some (f x y)) (hq:∀ x y,q (f x y)=lt x y) {d:Array α} {hi first root n:Nat} (hs:d.size < 1152921504606846976) (hb:first+hi<=d.size) (hr:root<=d.size) (hn:d.size < n):
 rT C q n d.toList (root:Int) (hi:Int) (first:Int)=some (siftDown lt hi first root d).toList:=by
 obtain⟨r,h1,h2⟩:=aeB hC hq d.toList hi first hi root d n (by omega) (by simp) hs hb hr (by omega)
 unfold rT;rw[h1];rcases h2 with h2 |h2<;>rw[h2]<;>rfl
theorem GZ (hi first:Nat):∀ (k:Nat) (d:Array α),(heapBuild lt hi first k d).size=d.size
 | 0,d=>rfl
 |k+1,d=>by rw[heapBuild,GZ hi first k,size_siftDown hi first hi k d (by omega)]
theorem aeC (hC:∀ x y,C x y=some (f x y)) (hq:∀ x y,q (f x y)=lt x y) (a0:List α) (a b:Nat) {n:Nat} (hab:a<=b):∀ (i:Nat) (d:Array α) (k:Nat),a0.length=d.size->d.size < 1152921504606846976->b<=d.size->i<=d.size->d.size < n->i < k->
 iter (sN C q n a0 (a:Int) (b:Int)) k ((i:Int) - 1,d.toList)=some (heapBuild lt (b - a) a i d).toList:=by
 intro i
 induction i with
 |zero=>
  intro d k h0 hs hb hi hn hk;obtain⟨k,rfl⟩:∃ m,k=m+1:=⟨k - 1,by omega⟩;exact bF (by simp[sN,heapBuild])
 |succ i ih=>
  intro d k h0 hs hb hi hn hk;obtain⟨k,rfl⟩:∃ m,k=m+1:=⟨k - 1,by omega⟩;have e:(((i+1:Nat):Int) - 1)=((i:Nat):Int):=by omega
  have c:decide (((i:Nat):Int)>=0)=true:=by simp
  have z:=size_siftDown (lt:=lt) (b - a) a (b - a) i d (by omega);have s:sN C q n a0 (a:Int) (b:Int) (((i:Nat):Int),d.toList)=some (.inl (((i:Nat):Int) - 1,(siftDown lt (b - a) a i d).toList)):=by
   simp only[sN,c,au];rw[Ur (by simpa using h0),GY hab (by omega),Mf hC hq hs (by omega) (by omega) hn];simp only[au,ah];rw[bB (by omega) (by omega)]
  rw[e,dK s,ih _ k (by rw[z];exact h0) (by rw[z];exact hs) (by rw[z];exact hb) (by rw[z];omega) (by rw[z];exact hn) (by omega)];rfl
theorem aeD (hC:∀ x y,C x y=some (f x y)) (hq:∀ x y,q (f x y)=lt x y) (a0:List α) (a:Nat) {n:Nat}:∀ (i:Nat) (d:Array α) (k:Nat),a0.length=d.size->d.size < 1152921504606846976->a+i<=d.size->d.size < n->i < k->
 iter (sO C q n a0 (a:Int)) k ((i:Int) - 1,d.toList)=some (heapPop lt a i d).toList:=by
 intro i
 induction i with
 |zero=>
  intro d k h0 hs hb hn hk;obtain⟨k,rfl⟩:∃ m,k=m+1:=⟨k - 1,by omega⟩;exact bF (by simp[sO,heapPop])
 |succ i ih=>
  intro d k h0 hs hb hn hk;obtain⟨k,rfl⟩:∃ m,k=m+1:=⟨k - 1,by omega⟩;have e:(((i+1:Nat):Int) - 1)=((i:Nat):Int):=by omega
  have c:decide (((i:Nat):Int)>=0)=true:=by simp
  have hai:a+i < d.size:=by omega
  have ha:a < d.size:=by omega
  have i1:inb ((a+i:Nat):Int) a0.length=true:=jT (by omega);have i2:inb ((a:Nat):Int) a0.length=true:=jT (by omega);have e1:i64.wrap ((a:Int)+((i:Nat):Int))=((a+i:Nat):Int):=OL (by omega);have z:=size_siftDown (lt:=lt) i a i 0 (swp d a (a+i)) (by omega);have q1:rT C q n (swp d a (a+i)).toList 0 ((i:Nat):Int) ((a:Nat):Int)=some (siftDown lt i a 0 (swp d a (a+i))).toList:=Mf (root:=0) hC hq (by rw[size_swp];exact hs) (by rw[size_swp];omega) (by omega) (by rw[size_swp];exact hn);have s:sO C q n a0 (a:Int) (((i:Nat):Int),d.toList)=some (.inl (((i:Nat):Int) - 1,(siftDown lt i a 0 (swp d a (a+i))).toList)):=by
   simp only[sO,c,au,e1,i1,fT hai,ah,i2,fT ha,EI,GV hai,GX];rw[Ur (by rw[h0,Array.length_toList,size_swp]),q1];simp only[au,ah];rw[bB (by omega) (by omega)]
  rw[size_swp]at z;rw[e,dK s,ih _ k (by rw[z];exact h0) (by rw[z];exact hs) (by rw[z];omega) (by rw[z];exact hn) (by omega)];rfl
theorem Zt (hC:∀ x y,C x y=some (f x y)) (hq:∀ x y,q (f x y)=lt x y) {d:Array α} {a b n:Nat} (hs:d.size < 1152921504606846976) (hb:b<=d.size) (hab:a < b) (hn:d.size < n):
 ze C q n d.toList (a:Int) (b:Int)=some (heapSort lt d a b).toList:=by
 unfold ze heapSort;have e1:i64.wrap ((b:Int) - (a:Int))=((b - a:Nat):Int):=GY (by omega) (by omega);have e2:i64.wrap (((b - a:Nat):Int) - 1)=((b - a - 1:Nat):Int):=w1 (by omega) (by omega);have e3:i64.wrap (Int.tdiv ((b - a - 1:Nat):Int) 2)=(((b - a - 1)/2+1:Nat):Int) - 1:=by rw[show Int.tdiv ((b - a - 1:Nat):Int) 2=(((b - a - 1)/2:Nat):Int)by rw[Int.tdiv_eq_ediv_of_nonneg (by omega)];omega,oG (by omega)];omega
 have c:(2 != 0)=true:=rfl;have z:=GZ (lt:=lt) (b - a) a ((b - a - 1)/2+1) d;rw[e1,e2,e3,aeC hC hq d.toList a b (by omega) _ d n (by simp) hs hb (by omega) hn (by omega)];simp only[ah];rw[show ((b - a - 1:Nat):Int)=((b - a:Nat):Int) - 1 by omega,aeD hC hq d.toList a (b - a) _ n (by rw[z];simp) (by rw[z];exact hs) (by rw[z];omega) (by rw[z];exact hn) (by omega)];rfl
theorem ag6 (a0:List α):∀ (m i j:Nat) (d:Array α) (k:Nat),j - i<=m->a0.length=d.size->d.size < 1152921504606846976->j < d.size->m < k->
 iter (jD a0) k ((i:Int),(j:Int),d.toList)=some (reverseLoop i j d).toList:=by
 intro m
 induction m with
 |zero=>
  intro i j d k hm h0 hs hj hk;obtain⟨k,rfl⟩:∃ m,k=m+1:=⟨k - 1,by omega⟩;have c:decide (((i:Nat):Int) < ((j:Nat):Int))=false:=by simp;omega
  rw[reverseLoop,aD (by omega)];exact bF (by simp only[jD,c,aA])
 |succ m ih=>
  intro i j d k hm h0 hs hj hk;obtain⟨k,rfl⟩:∃ m,k=m+1:=⟨k - 1,by omega⟩;by_cases hij:i < j
  ·have c:decide (((i:Nat):Int) < ((j:Nat):Int))=true:=(by simpa using hij);have hi:i < d.size:=(by omega);have i1:inb ((i:Nat):Int) a0.length=true:=jT (by omega);have i2:inb ((j:Nat):Int) a0.length=true:=jT (by omega);have s:jD a0 ((i:Int),(j:Int),d.toList)=some (.inl (((i+1:Nat):Int),((j - 1:Nat):Int),(swp d i j).toList)):=by
    simp only[jD,c,au,i2,fT hj,ah,i1,fT hi,EI,GV hj,GX];rw[aN (by omega),w1 (by omega) (by omega)]
   rw[dK s,ih _ _ _ k (by omega) (by rw[size_swp];exact h0) (by rw[size_swp];exact hs) (by rw[size_swp];omega) (by omega)]
   conv=>rhs;rw[reverseLoop,aJ hij]
  ·have c:decide (((i:Nat):Int) < ((j:Nat):Int))=false:=(by simp;omega);rw[reverseLoop,aD hij];exact bF (by simp only[jD,c,aA])
theorem OM {d:Array α} {a b n:Nat} (hs:d.size < 1152921504606846976) (hb:b<=d.size) (hab:a < b) (hn:d.size < n):
 kM n d.toList (a:Int) (b:Int)=some (reverseRange d a b).toList:=by
 unfold kM reverseRange;rw[w1 (by omega) (by omega),ag6 d.toList b a (b - 1) d n (by omega) (by simp) hs (by omega) (by omega)];rfl
end
theorem oV {x:Nat} (h:x < 18446744073709551616):IntKind.u64.wrap (x:Int)=(x:Int):=by
 simp only[IntKind.wrap,IntKind.bits,IntKind.signed,Bool.false_and,Bool.false_eq_true,if_false];omega
theorem Us {x y:Nat} (hx:x < 18446744073709551616) (hy:y < 18446744073709551616):bits .xor .u64 (x:Int) (y:Int)=((x ^^^ y:Nat):Int):=by
 have h:x ^^^ y < 2 ^ 64:=Nat.xor_lt_two_pow (by omega) (by omega);show IntKind.u64.wrap (((BitVec.ofInt 64 (x:Int) ^^^ BitVec.ofInt 64 (y:Int)).toNat:Nat):Int)=_;rw[BitVec.toNat_xor,BitVec.toNat_ofInt,BitVec.toNat_ofInt];have e1:((x:Int)%(2 ^ 64:Nat)).toNat=x:=by omega
 have e2:((y:Int)%(2 ^ 64:Nat)).toNat=y:=by omega
 rw[e1,e2,oV (by omega)]
theorem air {x y:Nat} (hx:x < 18446744073709551616) (hy:y < 18446744073709551616):bits .and .u64 (x:Int) (y:Int)=((x &&& y:Nat):Int):=by
 have h:x &&& y<=x:=Nat.and_le_left;show IntKind.u64.wrap (((BitVec.ofInt 64 (x:Int) &&& BitVec.ofInt 64 (y:Int)).toNat:Nat):Int)=_;rw[BitVec.toNat_and,BitVec.toNat_ofInt,BitVec.toNat_ofInt];have e1:((x:Int)%(2 ^ 64:Nat)).toNat=x:=by omega
 have e2:((y:Int)%(2 ^ 64:Nat)).toNat=y:=by omega
 rw[e1,e2,oV (by omega)]
section
variable {α R:Type} [Inhabited α]
variable {C:α->α->Option R} {q:R->Bool} {f:α->α->R} {lt:α->α->Bool}
theorem Ky (hC:∀ x y,C x y=some (f x y)) (hq:∀ x y,q (f x y)=lt x y) {d:Array α} {a b s:Nat} (ha:a < d.size) (hb:b < d.size) (hs:s < 1099511627776):
 Bh C q d.toList (a:Int) (b:Int) (s:Int)=some (((order2 lt d a b s).1:Int),((order2 lt d a b s).2.1:Int),((order2 lt d a b s).2.2:Int)):=by
 unfold Bh order2;simp only[aj6 hb,aj6 ha,ah,hC,hq];cases lt d[b]! d[a]! with
 |true=>simp only[au,if_true];rw[aN (by omega)]
 |false=>simp
theorem Kz (hC:∀ x y,C x y=some (f x y)) (hq:∀ x y,q (f x y)=lt x y) {d:Array α} {a b c s:Nat} (ha:a < d.size) (hb:b < d.size) (hc:c < d.size) (hs:s < 1099511627770):
 yC C q d.toList (a:Int) (b:Int) (c:Int) (s:Int)=some (((median lt d a b c s).1:Int),((median lt d a b c s).2:Int)):=by
 unfold yC median;have m1:=order2_mem lt d a b s;have c1:=order2_count (lt:=lt) d a b s;rw[Ky hC hq ha hb (by omega),ah];have r1:(order2 lt d a b s).1 < d.size:=by omega
 have r2:(order2 lt d a b s).2.1 < d.size:=by omega
 have m2:=order2_mem lt d (order2 lt d a b s).2.1 c (order2 lt d a b s).2.2;have c2:=order2_count (lt:=lt) d (order2 lt d a b s).2.1 c (order2 lt d a b s).2.2;simp only[Ky hC hq r2 hc (show (order2 lt d a b s).2.2 < 1099511627776 by omega),ah];have r3:(order2 lt d (order2 lt d a b s).2.1 c (order2 lt d a b s).2.2).1 < d.size:=by omega
 simp only[Ky hC hq r1 r3 (show (order2 lt d (order2 lt d a b s).2.1 c (order2 lt d a b s).2.2).2.2 < 1099511627776 by omega),ah]
theorem rC (hC:∀ x y,C x y=some (f x y)) (hq:∀ x y,q (f x y)=lt x y) {d:Array α} {a s:Nat} (ha:0 < a) (hb:a+1 < d.size) (hs:s < 1099511627770) (hsz:d.size < 1152921504606846976):
 fe C q d.toList (a:Int) (s:Int)=some (((medianAdjacent lt d a s).1:Int),((medianAdjacent lt d a s).2:Int)):=by
 unfold fe medianAdjacent;rw[w1 ha (by omega),aN (by omega),Kz hC hq (by omega) (by omega) hb hs];rfl
def QJ:Hint->Int
 | .unknown=>0
 | .increasing=>1
 | .decreasing=>2
theorem Mg (a b:Nat):Int.tdiv (a:Int) (b:Int)=((a/b:Nat):Int):=by rw[Int.tdiv_eq_ediv_of_nonneg (by omega)];rfl
theorem ais (hC:∀ x y,C x y=some (f x y)) (hq:∀ x y,q (f x y)=lt x y) {d:Array α} {i j k:Nat} (hi:0 < i) (hi2:i+1 < d.size) (hj:0 < j) (hj2:j+1 < d.size) (hk:0 < k) (hk2:k+1 < d.size) (hsz:d.size < 1152921504606846976):
 ((fe C q d.toList (i:Int) 0).bind fun r1=>(fe C q d.toList (j:Int) r1.2).bind fun r2=>(fe C q d.toList (k:Int) r2.2).bind fun r3=>some (r1.1,r2.1,r3.1,r3.2))=
  some (((medianAdjacent lt d i 0).1:Int),((medianAdjacent lt d j (medianAdjacent lt d i 0).2).1:Int),((medianAdjacent lt d k (medianAdjacent lt d j (medianAdjacent lt d i 0).2).2).1:Int),((medianAdjacent lt d k (medianAdjacent lt d j (medianAdjacent lt d i 0).2).2).2:Int))∧
 yC C q d.toList ((medianAdjacent lt d i 0).1:Int) ((medianAdjacent lt d j (medianAdjacent lt d i 0).2).1:Int) ((medianAdjacent lt d k (medianAdjacent lt d j (medianAdjacent lt d i 0).2).2).1:Int) ((medianAdjacent lt d k (medianAdjacent lt d j (medianAdjacent lt d i 0).2).2).2:Int)=
  some (((median lt d (medianAdjacent lt d i 0).1 (medianAdjacent lt d j (medianAdjacent lt d i 0).2).1 (medianAdjacent lt d k (medianAdjacent lt d j (medianAdjacent lt d i 0).2).2).1 (medianAdjacent lt d k (medianAdjacent lt d j (medianAdjacent lt d i 0).2).2).2).1:Int),((median lt d (medianAdjacent lt d i 0).1 (medianAdjacent lt d j (medianAdjacent lt d i 0).2).1 (medianAdjacent lt d k (medianAdjacent lt d j (medianAdjacent lt d i 0).2).2).1 (medianAdjacent lt d k (medianAdjacent lt d j (medianAdjacent lt d i 0).2).2).2).2:Int)):=by
 have n1:=medianAdjacent_mem lt d i 0;have k1:=medianAdjacent_count (lt:=lt) d i 0;have g1:fe C q d.toList (i:Int) 0=_:=rC (s:=0) hC hq hi hi2 (by omega) hsz;generalize medianAdjacent lt d i 0=M1 at*;have n2:=medianAdjacent_mem lt d j M1.2;have k2:=medianAdjacent_count (lt:=lt) d j M1.2;have g2:=rC (d:=d) (s:=M1.2) hC hq hj hj2 (by omega) hsz;generalize medianAdjacent lt d j M1.2=M2 at*;have n3:=medianAdjacent_mem lt d k M2.2;have k3:=medianAdjacent_count (lt:=lt) d k M2.2;have g3:=rC (d:=d) (s:=M2.2) hC hq hk hk2 (by omega) hsz;generalize medianAdjacent lt d k M2.2=M3 at*;refine⟨?_,Kz hC hq (by omega) (by omega) (by omega) (by omega)⟩;simp only[g1,ah,g2,g3]
theorem Rl (hC:∀ x y,C x y=some (f x y)) (hq:∀ x y,q (f x y)=lt x y) {d:Array α} {a b:Nat} (hab:a < b) (hb:b<=d.size) (hsz:d.size < 1152921504606846976):
 oU C q d.toList (a:Int) (b:Int)=some (((choosePivot lt d a b).1:Int),QJ (choosePivot lt d a b).2):=by
 have e1:i64.wrap ((b:Int) - (a:Int))=((b - a:Nat):Int):=GY (by omega) (by omega);have e2:i64.wrap (Int.tdiv ((b - a:Nat):Int) 4)=(((b - a)/4:Nat):Int):=by rw[show (4:Int)=((4:Nat):Int)from rfl,Mg,oG (by omega)]
 have p1:i64.wrap ((((b - a)/4:Nat):Int)*1)=(((b - a)/4*1:Nat):Int):=by rw[bB (by omega) (by omega)];omega
 have p2:i64.wrap ((((b - a)/4:Nat):Int)*2)=(((b - a)/4*2:Nat):Int):=by rw[bB (by omega) (by omega)];omega
 have p3:i64.wrap ((((b - a)/4:Nat):Int)*3)=(((b - a)/4*3:Nat):Int):=by rw[bB (by omega) (by omega)];omega
 have q1:i64.wrap ((a:Int)+(((b - a)/4*1:Nat):Int))=((a+(b - a)/4*1:Nat):Int):=OL (by omega);have q2:i64.wrap ((a:Int)+(((b - a)/4*2:Nat):Int))=((a+(b - a)/4*2:Nat):Int):=OL (by omega);have q3:i64.wrap ((a:Int)+(((b - a)/4*3:Nat):Int))=((a+(b - a)/4*3:Nat):Int):=OL (by omega);have four:(4 != 0)=true:=rfl;have fin:∀ (x:Nat) (s:Nat),((bif ((s:Int)==(0:Int))then some ((x:Int),(1:Int))else (bif ((s:Int)==(12:Int))then some ((x:Int),(2:Int))else some ((x:Int),(0:Int)))):Option (Int×Int))=some ((x:Int),QJ (if s=0 then .increasing else if s=12 then .decreasing else .unknown)):=by
  intro x s;by_cases h0:s=0
  ·subst h0;rfl
  ·have z0:((s:Int)==0)=false:=(by rw[beq_eq_false_iff_ne];omega);by_cases h12:s=12
   ·subst h12;rfl
   ·have z12:((s:Int)==12)=false:=(by rw[beq_eq_false_iff_ne];omega);simp only[z0,z12,aA,h0,h12,if_false,QJ]
 unfold oU choosePivot;simp only[four,au,e1,e2,p1,p2,p3,q1,q2,q3];by_cases h8:b - a>=8
 ·have c8:decide (((b - a:Nat):Int)>=8)=true:=by simp;omega
  by_cases h50:b - a>=50
  ·have c50:decide (((b - a:Nat):Int)>=50)=true:=(by simp;omega);have hi:0 < a+(b - a)/4*1:=(by omega);have hj:0 < a+(b - a)/4*2:=(by omega);have hk:0 < a+(b - a)/4*3:=(by omega);have hi2:a+(b - a)/4*1+1 < d.size:=(by omega);have hj2:a+(b - a)/4*2+1 < d.size:=(by omega);have hk2:a+(b - a)/4*3+1 < d.size:=(by omega);obtain⟨g1,g2⟩:=ais hC hq hi hi2 hj hj2 hk hk2 hsz;simp only[c8,au,c50,g1,ah,g2,fin,aJ h8,aJ h50]
  ·have c50:decide (((b - a:Nat):Int)>=50)=false:=(by simp;omega);have g:yC C q d.toList ((a+(b - a)/4*1:Nat):Int) ((a+(b - a)/4*2:Nat):Int) ((a+(b - a)/4*3:Nat):Int) 0=_:=Kz (s:=0) hC hq (by omega) (by omega) (by omega) (by omega);simp only[c8,au,c50,aA,ah,g,fin,aJ h8,aD h50]
 ·have c8:decide (((b - a:Nat):Int)>=8)=false:=by simp;omega
  simp only[c8,aA,ah,aD h8];rfl
def X6 (npt:Int->Option Int):Prop:=∀ L:Nat,8<=L->L < 1152921504606846976->npt (L:Int)=some ((2 ^ bitsLen L:Nat):Int)
def Ut (xsh:Int->Option (Int×Int)):Prop:=∀ r:Nat,r < 18446744073709551616->xsh (r:Int)=some ((xorNextN r:Int),(xorNextN r:Int))
theorem ag7 (r:UInt64):(xorNext r).toNat=xorNextN r.toNat:=xorNext_toNat r
theorem G5 (a len m:Nat) (st:UInt64×Array α) (idx:Nat):(breakStep a len m st idx).2.size=st.2.size:=by simp[breakStep,size_swp]
theorem G6 {npt:Int->Option Int} {xsh:Int->Option (Int×Int)} (hx:Ut xsh) (a0:List α) {a b:Nat} {d:Array α} {r:UInt64} {idx:Nat} (h0:a0.length=d.size) (hb:b<=d.size) (h8:8<=b - a) (hsz:d.size < 1152921504606846976)
 (hi:a<=idx) (hi2:idx < b) (hle:idx<=a+(b - a)/4*2+1):
 j6 npt xsh a0 (a:Int) (b:Int) ((2 ^ bitsLen (b - a):Nat):Int) ((idx:Int),d.toList,(r.toNat:Int))=some (.inl (((idx+1:Nat):Int),(breakStep a (b - a) (1 <<< bitsLen (b - a)) (r,d) idx).2.toList,((breakStep a (b - a) (1 <<< bitsLen (b - a)) (r,d) idx).1.toNat:Int))):=by
 have e1:i64.wrap ((b:Int) - (a:Int))=((b - a:Nat):Int):=GY (by omega) (by omega);have e2:i64.wrap (Int.tdiv ((b - a:Nat):Int) 4)=(((b - a)/4:Nat):Int):=by rw[show (4:Int)=((4:Nat):Int)from rfl,Mg,oG (by omega)]
 have p2:i64.wrap ((((b - a)/4:Nat):Int)*2)=(((b - a)/4*2:Nat):Int):=by rw[bB (by omega) (by omega)];omega
 have q2:i64.wrap ((a:Int)+(((b - a)/4*2:Nat):Int))=((a+(b - a)/4*2:Nat):Int):=OL (by omega);have q3:i64.wrap (((a+(b - a)/4*2:Nat):Int)+1)=((a+(b - a)/4*2+1:Nat):Int):=aN (by omega);have c:decide (((idx:Nat):Int)<=((a+(b - a)/4*2+1:Nat):Int))=true:=by simp;omega
 have four:(4 != 0)=true:=rfl;have hp:=two_pow_bitsLen_le (n:=b - a) (by omega);have hp1:=lt_two_pow_bitsLen (b - a);have sh:1 <<< bitsLen (b - a)=2 ^ bitsLen (b - a):=by rw[Nat.shiftLeft_eq,Nat.one_mul]
 have hr:=r.toNat_lt;have hr2:xorNextN r.toNat < 18446744073709551616:=xorNextN_lt _ (by omega);have m1:IntKind.u64.wrap (((2 ^ bitsLen (b - a):Nat):Int) - 1)=((2 ^ bitsLen (b - a) - 1:Nat):Int):=by rw[show ((2 ^ bitsLen (b - a):Nat):Int) - 1=((2 ^ bitsLen (b - a) - 1:Nat):Int)by omega,oV (by omega)]
 have al:xorNextN r.toNat &&& (2 ^ bitsLen (b - a) - 1)<=2 ^ bitsLen (b - a) - 1:=Nat.and_le_right;have m2:i64.wrap (bits .and .u64 ((xorNextN r.toNat:Nat):Int) ((2 ^ bitsLen (b - a) - 1:Nat):Int))=((xorNextN r.toNat &&& (2 ^ bitsLen (b - a) - 1):Nat):Int):=by rw[air hr2 (by omega),oG (by omega)]
 generalize hO:xorNextN r.toNat &&& (2 ^ bitsLen (b - a) - 1)=O at*;have pick:((bif (decide ((O:Int)>=((b - a:Nat):Int)))then some (i64.wrap ((O:Int) - ((b - a:Nat):Int)))else some (O:Int)):Option Int)=some (((if O>=b - a then O - (b - a)else O:Nat)):Int):=by
  by_cases h:O>=b - a
  ·have c:decide ((O:Int)>=((b - a:Nat):Int))=true:=(by simp;omega);rw[c,au,GY (by omega) (by omega),aJ h]
  ·have c:decide ((O:Int)>=((b - a:Nat):Int))=false:=(by simp;omega);rw[c,aA,aD h]
 have hpk:(if O>=b - a then O - (b - a)else O) < b - a:=by split<;>omega
 unfold breakStep;simp only[ag7,sh,hO];generalize (if O>=b - a then O - (b - a)else O)=P at*;have hP:a+P < d.size:=by omega
 have hI:idx < d.size:=by omega
 have i1:inb ((a+P:Nat):Int) a0.length=true:=jT (by omega);have i2:inb ((idx:Nat):Int) a0.length=true:=jT (by omega);simp only[j6,four,au,e1,e2,p2,q2,q3,c,hx _ (show r.toNat < 18446744073709551616 by omega),ah,m1,m2,pick,OL (show a+P<=9223372036854775807 by omega),i1,i2,fT hP,fT hI,EI,GV hP,GX];rw[aN (by omega)]
theorem Mh {npt:Int->Option Int} {xsh:Int->Option (Int×Int)} (hn:X6 npt) (hx:Ut xsh) {d:Array α} {a b n:Nat} (hab:a<=b) (hb:b<=d.size) (hsz:d.size < 1152921504606846976) (hn4:4 < n):
 jH npt xsh n d.toList (a:Int) (b:Int)=some (breakPatterns d a b).toList:=by
 have e1:i64.wrap ((b:Int) - (a:Int))=((b - a:Nat):Int):=GY (by omega) (by omega);unfold jH breakPatterns;rw[e1];by_cases h8:b - a>=8
 ·have c:decide (((b - a:Nat):Int)>=8)=true:=by simp;omega
  have e2:i64.wrap (Int.tdiv ((b - a:Nat):Int) 4)=(((b - a)/4:Nat):Int):=by rw[show (4:Int)=((4:Nat):Int)from rfl,Mg,oG (by omega)]
  have p2:i64.wrap ((((b - a)/4:Nat):Int)*2)=(((b - a)/4*2:Nat):Int):=by rw[bB (by omega) (by omega)];omega
  have q2:i64.wrap ((a:Int)+(((b - a)/4*2:Nat):Int))=((a+(b - a)/4*2:Nat):Int):=OL (by omega);have q3:i64.wrap (((a+(b - a)/4*2:Nat):Int)+1)=((a+(b - a)/4*2+1:Nat):Int):=aN (by omega);have q4:i64.wrap (((a+(b - a)/4*2:Nat):Int) - 1)=((a+(b - a)/4*2 - 1:Nat):Int):=w1 (by omega) (by omega);have four:(4 != 0)=true:=rfl;have u:IntKind.u64.wrap ((b - a:Nat):Int)=((UInt64.ofNat (b - a)).toNat:Int):=by
   rw[oV (by omega),UInt64.toNat_ofNat'];congr 1;omega
  have cstop:decide (((a+(b - a)/4*2+1+1:Nat):Int)<=((a+(b - a)/4*2+1:Nat):Int))=false:=by simp;omega
  simp only[c,au,hn (b - a) h8 (by omega),ah,four,e2,p2,q2,q4,u,oG (show b - a<=9223372036854775807 by omega)];rw[aJ h8];generalize hI:a+(b - a)/4*2 - 1=I at*;generalize hst:(UInt64.ofNat (b - a),d)=st at*;have s1:=G6 (a0:=d.toList) (npt:=npt) hx (a:=a) (b:=b) (d:=st.2) (r:=st.1) (idx:=I) (by rw[<- hst];simp) (by rw[<- hst];exact hb) h8 (by rw[<- hst];exact hsz) (by omega) (by omega) (by omega);have z1:=G5 a (b - a) (1 <<< bitsLen (b - a)) st I;have s2:=G6 (a0:=d.toList) (npt:=npt) hx (a:=a) (b:=b) (d:=(breakStep a (b - a) (1 <<< bitsLen (b - a)) st I).2) (r:=(breakStep a (b - a) (1 <<< bitsLen (b - a)) st I).1) (idx:=I+1) (by rw[z1,<- hst];simp) (by rw[z1,<- hst];exact hb) h8 (by rw[z1,<- hst];exact hsz) (by omega) (by omega) (by omega);have z2:=G5 a (b - a) (1 <<< bitsLen (b - a)) (breakStep a (b - a) (1 <<< bitsLen (b - a)) st I) (I+1);have s3:=G6 (a0:=d.toList) (npt:=npt) hx (a:=a) (b:=b) (d:=(breakStep a (b - a) (1 <<< bitsLen (b - a)) (breakStep a (b - a) (1 <<< bitsLen (b - a)) st I) (I+1)).2) (r:=(breakStep a (b - a) (1 <<< bitsLen (b - a)) (breakStep a (b - a) (1 <<< bitsLen (b - a)) st I) (I+1)).1) (idx:=I+2) (by rw[z2,z1,<- hst];simp) (by rw[z2,z1,<- hst];exact hb) h8 (by rw[z2,z1,<- hst];exact hsz) (by omega) (by omega) (by omega);obtain⟨n,rfl⟩:∃ m,n=m+1+1+1+1:=⟨n - 4,by omega⟩;have d1:d.toList=st.2.toList:=by rw[<- hst]
  have d2:(UInt64.ofNat (b - a)).toNat=st.1.toNat:=by rw[<- hst]
  have step1:iter (j6 npt xsh d.toList (a:Int) (b:Int) ((2 ^ bitsLen (b - a):Nat):Int)) (n+1+1+1+1) ((I:Int),st.2.toList,(st.1.toNat:Int))=some (breakStep a (b - a) (1 <<< bitsLen (b - a)) (breakStep a (b - a) (1 <<< bitsLen (b - a)) (breakStep a (b - a) (1 <<< bitsLen (b - a)) st I) (I+1)) (I+2)).2.toList:=by
   rw[dK s1,dK s2,dK s3];refine bF ?_;have cs:decide (((I+2+1:Nat):Int)<=((a+(b - a)/4*2+1:Nat):Int))=false:=(by simp;omega);simp only[j6,four,au,e1,e2,p2,q2,q3,cs,aA]
  rw[<- d1,<- d2]at step1;rw[step1];rfl
 ·have c:decide (((b - a:Nat):Int)>=8)=false:=by simp;omega
  rw[aD h8,c];rfl
end
section
variable {α R:Type} [Inhabited α]
theorem wM {step:Int->Option (Int ⊕ Int)} (p:α->Bool) (d:Array α) (j:Nat) (h:∀ i:Nat,i<=j+2->step (i:Int)=some (bif decide (i<=j)&&p d[i]! then .inl ((i+1:Nat):Int)else .inr (i:Int))):
 ∀ (m i n:Nat),j+1 - i<=m->i<=j+2->m < n->iter step n (i:Int)=some ((scanUp p d j i:Nat):Int):=by
 intro m
 induction m with
 |zero=>
  intro i n hm hi hn;obtain⟨n,rfl⟩:∃ m,n=m+1:=⟨n - 1,by omega⟩;have hi2:¬ i<=j:=by omega
  rw[scanUp,aD (by simp[hi2])];exact bF (by rw[h i hi];simp[hi2])
 |succ m ih=>
  intro i n hm hi hn;obtain⟨n,rfl⟩:∃ m,n=m+1:=⟨n - 1,by omega⟩;have hs:=h i hi;cases hc:decide (i<=j)&&p d[i]! with
  |true=>
   rw[hc,au]at hs;have hij:i<=j:=by
    rw[aK]at hc;exact of_decide_eq_true hc.1
   rw[dK hs,ih (i+1) n (by omega) (by omega) (by omega)]
   conv=>rhs;rw[scanUp,aJ (by simpa using hc)]
  |false=>
   rw[hc,aA]at hs;rw[bF hs,scanUp,aD (by rw[Bool.not_eq_true];simpa using hc)]
theorem nE {step:Int->Option (Int ⊕ Int)} (p:α->Bool) (d:Array α) (i:Nat) (hi:1<=i) (h:∀ j:Nat,j < d.size->step (j:Int)=some (bif decide (i<=j)&&p d[j]! then .inl ((j:Int) - 1)else .inr (j:Int))):
 ∀ (j n:Nat),j < d.size->j < n->iter step n (j:Int)=some ((scanDown p d i j:Nat):Int)
 | 0,n,hj,hn=>by
  obtain⟨n,rfl⟩:∃ m,n=m+1:=⟨n - 1,by omega⟩;have hi2:¬ i<=0:=by omega
  exact bF (by rw[h 0 hj];simp[hi2,scanDown])
 |j+1,n,hj,hn=>by
  obtain⟨n,rfl⟩:∃ m,n=m+1:=⟨n - 1,by omega⟩;have hs:=h (j+1) hj;cases hc:decide (i<=j+1)&&p d[j+1]! with
  |true=>
   rw[hc,au,show (((j+1:Nat):Int) - 1)=((j:Nat):Int)by omega]at hs;rw[dK hs,nE p d i hi h j n (by omega) (by omega)]
   conv=>rhs;rw[scanDown,aJ (by simpa using hc)]
  |false=>
   rw[hc,aA]at hs;rw[bF hs,scanDown,aD (by rw[Bool.not_eq_true];simpa using hc)]
variable {C:α->α->Option R} {q:R->Bool} {f:α->α->R} {lt:α->α->Bool}
theorem ag8 (hC:∀ x y,C x y=some (f x y)) (hq:∀ x y,q (f x y)=lt x y) (a0:List α) (b:Nat) (d:Array α) (h0:a0.length=d.size) (hs:d.size < 1152921504606846976) (hb:b<=d.size):∀ (m i n:Nat),b - i<=m->0 < i->i<=d.size->m < n->
 iter (eF C q a0 (b:Int) d.toList) n (i:Int)=some ((scanSorted lt d b i:Nat):Int):=by
 intro m
 induction m with
 |zero=>
  intro i n hm h1 hi hn;obtain⟨n,rfl⟩:∃ m,n=m+1:=⟨n - 1,by omega⟩;have hi2:¬ i < b:=by omega
  have c:decide (((i:Nat):Int) < (b:Int))=false:=by simp;omega
  rw[scanSorted,aD (by simp[hi2])];exact bF (by simp only[eF,c,aA,ah])
 |succ m ih=>
  intro i n hm h1 hi hn;obtain⟨n,rfl⟩:∃ m,n=m+1:=⟨n - 1,by omega⟩;by_cases hib:i < b
  ·have c:decide (((i:Nat):Int) < (b:Int))=true:=(by simpa using hib);have e:i64.wrap (((i:Nat):Int) - 1)=((i - 1:Nat):Int):=w1 h1 (by omega);have g1:i < d.size:=(by omega);have g2:i - 1 < d.size:=(by omega);cases hl:lt d[i]! d[i - 1]! with
   |true=>
    rw[scanSorted,aD (by rw[hl];simp)];exact bF (by simp only[eF,c,au,jT (show i < a0.length by omega),fT g1,ah,e,jT (show i - 1 < a0.length by omega),fT g2,hC,hq,hl,Bool.not_true,aA])
   |false=>
    have s:eF C q a0 (b:Int) d.toList (i:Int)=some (.inl ((i+1:Nat):Int)):=by
     simp only[eF,c,au,jT (show i < a0.length by omega),fT g1,ah,e,jT (show i - 1 < a0.length by omega),fT g2,hC,hq,hl,Bool.not_false];rw[aN (by omega)]
    rw[dK s,ih (i+1) n (by omega) (by omega) (by omega) (by omega)]
    conv=>rhs;rw[scanSorted,aJ (by rw[hl];simp[hib])]
  ·have c:decide (((i:Nat):Int) < (b:Int))=false:=(by simp;omega);rw[scanSorted,aD (by simp[hib])];exact bF (by simp only[eF,c,aA,ah])
theorem Uu (d:Array α) (b:Nat):∀ (m i:Nat),b - i<=m->i<=scanSorted lt d b i∧(i<=b->scanSorted lt d b i<=b):=by
 intro m
 induction m with
 |zero=>
  intro i hm;have:¬ i < b:=by omega
  rw[scanSorted,aD (by simp[this])];exact⟨aU _,fun h=>h⟩
 |succ m ih=>
  intro i hm;rw[scanSorted];split
  ·rename_i hc;have:i < b:=by
    rw[aK]at hc;exact of_decide_eq_true hc.1
   have:=ih (i+1) (by omega);exact⟨by omega,fun _=>this.2 (by omega)⟩
  ·exact⟨aU _,fun h=>h⟩
theorem G7:∀ (j:Nat) (d:Array α),(shiftDown lt j d).size=d.size
 | 0,d=>rfl
 |j+1,d=>by
  rw[shiftDown];split
  ·rfl
  ·rw[G7 j,size_swp]
theorem X7 (hC:∀ x y,C x y=some (f x y)) (hq:∀ x y,q (f x y)=lt x y) (a0:List α):∀ (j:Nat) (d:Array α) (n:Nat),a0.length=d.size->d.size < 1152921504606846976->j < d.size->j < n->
 iter (eG C q a0) n ((j:Int),d.toList)=some (shiftDown lt j d).toList
 | 0,d,n,h0,hs,hj,hn=>by
  obtain⟨n,rfl⟩:∃ m,n=m+1:=⟨n - 1,by omega⟩;exact bF (by simp[eG,shiftDown])
 |j+1,d,n,h0,hs,hj,hn=>by
  obtain⟨n,rfl⟩:∃ m,n=m+1:=⟨n - 1,by omega⟩;have c:decide (((j+1:Nat):Int)>=1)=true:=by simp;omega
  have e:i64.wrap (((j+1:Nat):Int) - 1)=((j:Nat):Int):=by rw[w1 (by omega) (by omega)];rfl
  have hj2:j < d.size:=by omega
  have i1:inb (((j+1:Nat)):Int) a0.length=true:=jT (by omega);have i2:inb ((j:Nat):Int) a0.length=true:=jT (by omega);cases hl:lt d[j+1]! d[j]! with
  |true=>
   have s:eG C q a0 (((j+1:Nat):Int),d.toList)=some (.inl (((j:Nat):Int),(swp d (j+1) j).toList)):=(by simp only[eG,c,au,i1,fT hj,ah,e,i2,fT hj2,hC,hq,hl,Bool.not_true,aA,EI,GV hj2,GX]);rw[dK s,X7 hC hq a0 j _ n (by rw[size_swp];exact h0) (by rw[size_swp];exact hs) (by rw[size_swp];exact hj2) (by omega),shiftDown,aD (by rw[hl];simp)]
  |false=>
   rw[shiftDown,aJ (by rw[hl];rfl)];exact bF (by simp only[eG,c,au,i1,fT hj,ah,e,i2,fT hj2,hC,hq,hl,Bool.not_false])
theorem Zu (b:Nat):∀ (m j:Nat) (d:Array α),b - j<=m->(shiftUp lt b j d).size=d.size:=by
 intro m
 induction m with
 |zero=>
  intro j d hm;rw[shiftUp,aD (by omega)]
 |succ m ih=>
  intro j d hm;rw[shiftUp];split
  ·split
   ·rfl
   ·rw[ih _ _ (by omega),size_swp]
  ·rfl
theorem ag9 (hC:∀ x y,C x y=some (f x y)) (hq:∀ x y,q (f x y)=lt x y) (a0:List α) (b:Nat):∀ (m j:Nat) (d:Array α) (n:Nat),b - j<=m->0 < j->a0.length=d.size->d.size < 1152921504606846976->b<=d.size->m < n->
 iter (dR C q a0 (b:Int)) n ((j:Int),d.toList)=some (shiftUp lt b j d).toList:=by
 intro m
 induction m with
 |zero=>
  intro j d n hm hj h0 hs hb hn;obtain⟨n,rfl⟩:∃ m,n=m+1:=⟨n - 1,by omega⟩;have c:decide (((j:Nat):Int) < (b:Int))=false:=by simp;omega
  rw[shiftUp,aD (by omega)];exact bF (by simp only[dR,c,aA])
 |succ m ih=>
  intro j d n hm hj h0 hs hb hn;obtain⟨n,rfl⟩:∃ m,n=m+1:=⟨n - 1,by omega⟩;by_cases hjb:j < b
  ·have c:decide (((j:Nat):Int) < (b:Int))=true:=(by simpa using hjb);have e:i64.wrap (((j:Nat):Int) - 1)=((j - 1:Nat):Int):=w1 hj (by omega);have g1:j < d.size:=(by omega);have g2:j - 1 < d.size:=(by omega);have i1:inb ((j:Nat):Int) a0.length=true:=jT (by omega);have i2:inb ((j - 1:Nat):Int) a0.length=true:=jT (by omega);cases hl:lt d[j]! d[j - 1]! with
   |true=>
    have s:dR C q a0 (b:Int) ((j:Int),d.toList)=some (.inl (((j+1:Nat):Int),(swp d j (j - 1)).toList)):=by
     simp only[dR,c,au,i1,fT g1,ah,e,i2,fT g2,hC,hq,hl,Bool.not_true,aA,EI,GV g2,GX];rw[aN (by omega)]
    rw[dK s,ih (j+1) _ n (by omega) (by omega) (by rw[size_swp];exact h0) (by rw[size_swp];exact hs) (by rw[size_swp];exact hb) (by omega)]
    conv=>rhs;rw[shiftUp,aJ hjb,aD (by rw[hl];simp)]
   |false=>
    rw[shiftUp,aJ hjb,aJ (by rw[hl];rfl)];exact bF (by simp only[dR,c,au,i1,fT g1,ah,e,i2,fT g2,hC,hq,hl,Bool.not_false])
  ·have c:decide (((j:Nat):Int) < (b:Int))=false:=(by simp;omega);rw[shiftUp,aD hjb];exact bF (by simp only[dR,c,aA])
theorem Zv (a i:Nat) (d:Array α):(fixDown lt a i d).size=d.size:=by
 unfold fixDown;split
 ·exact G7 _ _
 ·rfl
theorem aeE (b i:Nat) (d:Array α):(fixUp lt b i d).size=d.size:=by
 unfold fixUp;split
 ·exact Zu b b _ _ (by omega)
 ·rfl
theorem aha (hC:∀ x y,C x y=some (f x y)) (hq:∀ x y,q (f x y)=lt x y) (a0:List α) (a b:Nat) {n:Nat}:∀ (s i:Nat) (d:Array α) (k:Nat),s<=5->a < i->i<=b->a0.length=d.size->d.size < 1152921504606846976->b<=d.size->d.size < n->s < k->
 ∃ r,iter (dS C q n a0 (a:Int) (b:Int)) k ((i:Int),((5 - s:Nat):Int),d.toList)=some r∧(partialIns lt a b s i d).1.size=d.size∧
   (r= .inl (partialIns lt a b s i d).1.toList∧(partialIns lt a b s i d).2=false∨r= .inr ((partialIns lt a b s i d).2,(partialIns lt a b s i d).1.toList)):=by
 intro s
 induction s with
 |zero=>
  intro i d k h5 hai hib h0 hs hb hn hk;obtain⟨k,rfl⟩:∃ m,k=m+1:=⟨k - 1,by omega⟩;exact⟨.inl d.toList,bF (by simp[dS]),rfl,.inl ⟨rfl,rfl⟩⟩
 |succ s ih=>
  intro i d k h5 hai hib h0 hs hb hn hk;obtain⟨k,rfl⟩:∃ m,k=m+1:=⟨k - 1,by omega⟩;have c5:decide (((5 - (s+1):Nat):Int) < 5)=true:=by simp;omega
  have sc:=ag8 hC hq a0 b d h0 hs hb b i n (by omega) (by omega) (by omega) (by omega);obtain⟨r1,r2⟩:=Uu (lt:=lt) d b b i (by omega);have r2:=r2 hib;rw[partialIns_succ];generalize scanSorted lt d b i=I at*;by_cases hIb:I=b
  ·refine⟨.inr (true,d.toList),bF ?_,by rw[aJ hIb],.inr (by rw[aJ hIb])⟩;have cb:((I:Int)==(b:Int))=true:=(by rw[beq_iff_eq];omega);simp only[dS,c5,au,sc,ah,cb,Option.map_some,OI]
  ·have cb:((I:Int)==(b:Int))=false:=(by rw[beq_eq_false_iff_ne];omega);have eab:i64.wrap ((b:Int) - (a:Int))=((b - a:Nat):Int):=GY (by omega) (by omega);rw[aD hIb];by_cases h50:b - a < 50
   ·have c50:decide (((b - a:Nat):Int) < 50)=true:=(by simp;omega);refine⟨.inr (false,d.toList),bF ?_,by rw[aJ h50],.inr (by rw[aJ h50])⟩;simp only[dS,c5,au,sc,ah,cb,aA,eab,c50,Option.map_some,OI]
   ·have c50:decide (((b - a:Nat):Int) < 50)=false:=(by simp;omega);rw[aD h50];have g1:I < d.size:=(by omega);have g2:I - 1 < d.size:=(by omega);have i1:inb ((I:Nat):Int) a0.length=true:=jT (by omega);have i2:inb ((I - 1:Nat):Int) a0.length=true:=jT (by omega);have e:i64.wrap (((I:Nat):Int) - 1)=((I - 1:Nat):Int):=w1 (by omega) (by omega);have ea:i64.wrap ((I:Int) - (a:Int))=((I - a:Nat):Int):=GY (by omega) (by omega);have eb:i64.wrap ((b:Int) - (I:Int))=((b - I:Nat):Int):=GY (by omega) (by omega);have zS:(swp d I (I - 1)).size=d.size:=size_swp _ _ _;have fd:((bif (decide (((I - a:Nat):Int)>=(2:Int)))then (iter (eG C q a0) n (((I - 1:Nat):Int),(swp d I (I - 1)).toList)).bind fun w2=>some w2 else some (swp d I (I - 1)).toList):Option (List α))=some (fixDown lt a I (swp d I (I - 1))).toList:=by
     unfold fixDown;by_cases h2:I - a>=2
     ·have c2:decide (((I - a:Nat):Int)>=2)=true:=(by simp;omega);rw[c2,au,X7 hC hq a0 (I - 1) _ n (by rw[zS];exact h0) (by rw[zS];exact hs) (by rw[zS];exact g2) (by omega),aJ h2];rfl
     ·have c2:decide (((I - a:Nat):Int)>=2)=false:=(by simp;omega);rw[c2,aA,aD h2]
    have zD:(fixDown lt a I (swp d I (I - 1))).size=d.size:=(by rw[Zv,zS]);have fu:((bif (decide (((b - I:Nat):Int)>=(2:Int)))then (iter (dR C q a0 (b:Int)) n (((I+1:Nat):Int),(fixDown lt a I (swp d I (I - 1))).toList)).bind fun w3=>some (.inl ((I:Int),w3))else some (.inl ((I:Int),(fixDown lt a I (swp d I (I - 1))).toList))):Option ((Int×List α) ⊕ ((Int×Int×List α) ⊕ ((List α) ⊕ (Bool×(List α))))))=some (.inl ((I:Int),(fixUp lt b I (fixDown lt a I (swp d I (I - 1)))).toList)):=by
     unfold fixUp;by_cases h2:b - I>=2
     ·have c2:decide (((b - I:Nat):Int)>=2)=true:=(by simp;omega);rw[c2,au,ag9 hC hq a0 b b (I+1) _ n (by omega) (by omega) (by rw[zD];exact h0) (by rw[zD];exact hs) (by rw[zD];exact hb) (by omega),aJ h2];rfl
     ·have c2:decide (((b - I:Nat):Int)>=2)=false:=(by simp;omega);rw[c2,aA,aD h2]
    have zU:(fixUp lt b I (fixDown lt a I (swp d I (I - 1)))).size=d.size:=(by rw[aeE,zD]);have s1:dS C q n a0 (a:Int) (b:Int) ((i:Int),((5 - (s+1):Nat):Int),d.toList)=some (.inl ((I:Int),((5 - s:Nat):Int),(fixUp lt b I (fixDown lt a I (swp d I (I - 1)))).toList)):=by
     simp only[dS,c5,au,sc,ah,cb,aA,eab,c50,e,i2,fT g2,i1,fT g1,EI,GV g2,GX,ea,eb,fd];rw[aN (by omega),fu,aN (by omega),show 5 - (s+1)+1=5 - s by omega];rfl
    obtain⟨r,g1,g2,g3⟩:=ih I (fixUp lt b I (fixDown lt a I (swp d I (I - 1)))) k (by omega) (by omega) (by omega) (by rw[zU];exact h0) (by rw[zU];exact hs) (by rw[zU];exact hb) (by rw[zU];exact hn) (by omega);exact⟨r,by rw[dK s1];exact g1,by rw[g2,zU],g3⟩
theorem Cc (hC:∀ x y,C x y=some (f x y)) (hq:∀ x y,q (f x y)=lt x y) {d:Array α} {a b n:Nat} (hab:a < b) (hb:b<=d.size) (hs:d.size < 1152921504606846976) (hn:d.size < n) (hn5:5 < n):
 fF C q n d.toList (a:Int) (b:Int)=some ((partialInsertionSort lt d a b).2,(partialInsertionSort lt d a b).1.toList)∧(partialInsertionSort lt d a b).1.size=d.size:=by
 unfold fF partialInsertionSort;obtain⟨r,h1,h2,h3⟩:=aha hC hq d.toList a b 5 (a+1) d n (by omega) (by omega) (by omega) (by simp) hs hb hn hn5;refine⟨?_,h2⟩;rw[aN (by omega)];have h1':iter (dS C q n d.toList (a:Int) (b:Int)) n (((a+1:Nat):Int),(0:Int),d.toList)=some r:=h1;rw[h1'];rcases h3 with ⟨h3,h4⟩ |h3
 ·rw[h3,h4];rfl
 ·rw[h3];rfl
theorem ak0 (hC:∀ x y,C x y=some (f x y)) (hq:∀ x y,q (f x y)=lt x y) (a0:List α) (d:Array α) {a j:Nat} (h0:a0.length=d.size) (hs:d.size < 1152921504606846976) (ha:a < d.size) (hj:j < d.size) (i:Nat) (hi:i<=j+2):
 mH C q a0 (a:Int) (j:Int) d.toList (i:Int)=some (bif decide (i<=j)&&(fun x=>!lt d[a]! x) d[i]! then .inl ((i+1:Nat):Int)else .inr (i:Int)):=by
 by_cases h:i<=j
 ·have c:decide ((i:Int)<=(j:Int))=true:=by simpa using h
  have g:i < d.size:=by omega
  simp only[mH,c,au,jT (show a < a0.length by omega),fT ha,ah,jT (show i < a0.length by omega),fT g,hC,hq,h,decide_true,Bool.true_and];rw[aN (by omega)];cases lt d[a]! d[i]! <;>rfl
 ·have c:decide ((i:Int)<=(j:Int))=false:=by simp;omega
  simp only[mH,c,aA,ah,h,decide_false,Bool.false_and]
theorem ak1 (hC:∀ x y,C x y=some (f x y)) (hq:∀ x y,q (f x y)=lt x y) (a0:List α) (d:Array α) {a i:Nat} (h0:a0.length=d.size) (hs:d.size < 1152921504606846976) (ha:a < d.size) (j:Nat) (hj:j < d.size):
 mI C q a0 (a:Int) d.toList (i:Int) (j:Int)=some (bif decide (i<=j)&&(fun x=>lt d[a]! x) d[j]! then .inl ((j:Int) - 1)else .inr (j:Int)):=by
 by_cases h:i<=j
 ·have c:decide ((i:Int)<=(j:Int))=true:=by simpa using h
  simp only[mI,c,au,jT (show a < a0.length by omega),fT ha,ah,jT (show j < a0.length by omega),fT hj,hC,hq,h,decide_true,Bool.true_and];rw[bB (by omega) (by omega)];cases lt d[a]! d[j]! <;>rfl
 ·have c:decide ((i:Int)<=(j:Int))=false:=by simp;omega
  simp only[mI,c,aA,ah,h,decide_false,Bool.false_and]
theorem ait (hC:∀ x y,C x y=some (f x y)) (hq:∀ x y,q (f x y)=lt x y) (a0:List α) (a:Nat) {n:Nat}:∀ (m i j:Nat) (d:Array α) (k:Nat),j+1 - i<=m->1<=i->i<=j+2->a0.length=d.size->d.size < 1152921504606846976->a < d.size->j < d.size->d.size < n->m < k->
 iter (iP C q n a0 (a:Int)) k ((i:Int),(j:Int),d.toList)=some (((partEqLoop lt a i j d).1:Int),(partEqLoop lt a i j d).2.toList)∧(partEqLoop lt a i j d).2.size=d.size:=by
 intro m
 induction m with
 |zero=>
  intro i j d k hm h1 hij h0 hs ha hj hn hk;obtain⟨k,rfl⟩:∃ m,k=m+1:=⟨k - 1,by omega⟩;have s2:=wM (fun x=>!lt d[a]! x) d j (ak0 hC hq a0 d h0 hs ha hj) (j+1) i n (by omega) hij (by omega);have u1:=scanUp_ge (fun x=>!lt d[a]! x) d j i;have u2:=scanDown_le (fun x=>lt d[a]! x) d (scanUp (fun x=>!lt d[a]! x) d j i) j;have s3:=nE (fun x=>lt d[a]! x) d (scanUp (fun x=>!lt d[a]! x) d j i) (by omega) (ak1 hC hq a0 d h0 hs ha) j n hj (by omega);rw[partEqLoop_eq];have hc:scanUp (fun x=>!lt d[a]! x) d j i>scanDown (fun x=>lt d[a]! x) d (scanUp (fun x=>!lt d[a]! x) d j i) j:=by omega
  have c:decide (((scanUp (fun x=>!lt d[a]! x) d j i:Nat):Int)>((scanDown (fun x=>lt d[a]! x) d (scanUp (fun x=>!lt d[a]! x) d j i) j:Nat):Int))=true:=by simp;omega
  rw[aJ hc];exact⟨bF (by simp only[iP,s2,ah,s3,c,au]),rfl⟩
 |succ m ih=>
  intro i j d k hm h1 hij h0 hs ha hj hn hk;obtain⟨k,rfl⟩:∃ m,k=m+1:=⟨k - 1,by omega⟩;have s2:=wM (fun x=>!lt d[a]! x) d j (ak0 hC hq a0 d h0 hs ha hj) (j+1) i n (by omega) hij (by omega);have u1:=scanUp_ge (fun x=>!lt d[a]! x) d j i;have u2:=scanDown_le (fun x=>lt d[a]! x) d (scanUp (fun x=>!lt d[a]! x) d j i) j;have s3:=nE (fun x=>lt d[a]! x) d (scanUp (fun x=>!lt d[a]! x) d j i) (by omega) (ak1 hC hq a0 d h0 hs ha) j n hj (by omega);rw[partEqLoop_eq];generalize scanUp (fun x=>!lt d[a]! x) d j i=I at*;generalize scanDown (fun x=>lt d[a]! x) d I j=J at*;by_cases hc:I>J
  ·have c:decide (((I:Nat):Int)>((J:Nat):Int))=true:=(by simp;omega);rw[aJ hc];exact⟨bF (by simp only[iP,s2,ah,s3,c,au]),rfl⟩
  ·have c:decide (((I:Nat):Int)>((J:Nat):Int))=false:=(by simp;omega);rw[aD hc];have gI:I < d.size:=(by omega);have gJ:J < d.size:=(by omega);have s:iP C q n a0 (a:Int) ((i:Int),(j:Int),d.toList)=some (.inl (((I+1:Nat):Int),((J - 1:Nat):Int),(swp d I J).toList)):=by
    simp only[iP,s2,ah,s3,c,aA,jT (show J < a0.length by omega),jT (show I < a0.length by omega),au,fT gJ,fT gI,EI,GV gJ,GX];rw[aN (by omega),w1 (by omega) (by omega)]
   have zz:(swp d I J).size=d.size:=size_swp _ _ _;obtain⟨g1,g2⟩:=ih (I+1) (J - 1) (swp d I J) k (by omega) (by omega) (by omega) (by rw[zz];exact h0) (by rw[zz];exact hs) (by rw[zz];exact ha) (by rw[zz];omega) (by rw[zz];exact hn) (by omega);exact⟨by rw[dK s];exact g1,by rw[g2,zz]⟩
theorem KA (hC:∀ x y,C x y=some (f x y)) (hq:∀ x y,q (f x y)=lt x y) {d:Array α} {a b p n:Nat} (hap:a<=p) (hpb:p < b) (hb:b<=d.size) (hs:d.size < 1152921504606846976) (hn:d.size < n):
 jh C q n d.toList (a:Int) (b:Int) (p:Int)=some (((partitionEqual lt d a b p).1:Int),(partitionEqual lt d a b p).2.toList)∧(partitionEqual lt d a b p).2.size=d.size:=by
 unfold jh partitionEqual;have ga:a < d.size:=by omega
 have gp:p < d.size:=by omega
 have zz:(swp d a p).size=d.size:=size_swp _ _ _;obtain⟨g1,g2⟩:=ait hC hq d.toList a d.size (a+1) (b - 1) (swp d a p) n (by omega) (by omega) (by omega) (by rw[zz];simp) (by rw[zz];exact hs) (by rw[zz];exact ga) (by rw[zz];omega) (by rw[zz];exact hn) hn;refine⟨?_,by rw[g2,zz]⟩;have ll:d.toList.length=d.size:=by simp
 simp only[jT (show p < d.toList.length by omega),jT (show a < d.toList.length by omega),au,fT gp,fT ga,ah,EI,GV gp,GX];rw[aN (by omega),w1 (by omega) (by omega),g1];rfl
theorem akw (hC:∀ x y,C x y=some (f x y)) (hq:∀ x y,q (f x y)=lt x y) (a0:List α) (d:Array α) {a j:Nat} (h0:a0.length=d.size) (hs:d.size < 1152921504606846976) (ha:a < d.size) (hj:j < d.size) (i:Nat) (hi:i<=j+2):
 kN C q a0 (a:Int) (j:Int) d.toList (i:Int)=some (bif decide (i<=j)&&(fun x=>lt x d[a]!) d[i]! then .inl ((i+1:Nat):Int)else .inr (i:Int)):=by
 by_cases h:i<=j
 ·have c:decide ((i:Int)<=(j:Int))=true:=by simpa using h
  have g:i < d.size:=by omega
  simp only[kN,c,au,jT (show a < a0.length by omega),fT ha,ah,jT (show i < a0.length by omega),fT g,hC,hq,h,decide_true,Bool.true_and];rw[aN (by omega)];cases lt d[i]! d[a]! <;>rfl
 ·have c:decide ((i:Int)<=(j:Int))=false:=by simp;omega
  simp only[kN,c,aA,ah,h,decide_false,Bool.false_and]
theorem akx (hC:∀ x y,C x y=some (f x y)) (hq:∀ x y,q (f x y)=lt x y) (a0:List α) (d:Array α) {a i:Nat} (h0:a0.length=d.size) (hs:d.size < 1152921504606846976) (ha:a < d.size) (j:Nat) (hj:j < d.size):
 kP C q a0 (a:Int) d.toList (i:Int) (j:Int)=some (bif decide (i<=j)&&(fun x=>!lt x d[a]!) d[j]! then .inl ((j:Int) - 1)else .inr (j:Int)):=by
 by_cases h:i<=j
 ·have c:decide ((i:Int)<=(j:Int))=true:=by simpa using h
  simp only[kP,c,au,jT (show a < a0.length by omega),fT ha,ah,jT (show j < a0.length by omega),fT hj,hC,hq,h,decide_true,Bool.true_and];rw[bB (by omega) (by omega)];cases lt d[j]! d[a]! <;>rfl
 ·have c:decide ((i:Int)<=(j:Int))=false:=by simp;omega
  simp only[kP,c,aA,ah,h,decide_false,Bool.false_and]
theorem alv (a0:List α) (d:Array α) {a b p:Nat} (hb:0 < b) (hs:d.size < 1152921504606846976) (hbs:b<=d.size) (he:((a0.set (((0:Nat):Int)+(a:Int)).toNat a0[p]!).set (((0:Nat):Int)+(p:Int)).toNat a0[a]!)=d.toList) (v:Int):
 qx C q a0 (a:Int) (b:Int) (p:Int) a0[p]! a0[a]! v=kN C q a0 (a:Int) ((b - 1:Nat):Int) d.toList v:=by
 simp only[qx,kN,he];rw[w1 hb (by omega)]
theorem alx (a0:List α) (d:Array α) {a p:Nat} {w:Int} (he:((a0.set (((0:Nat):Int)+(a:Int)).toNat a0[p]!).set (((0:Nat):Int)+(p:Int)).toNat a0[a]!)=d.toList) (v:Int):
 qy C q a0 (a:Int) (p:Int) a0[p]! a0[a]! w v=kP C q a0 (a:Int) d.toList w v:=by simp only[qy,kP,he]
theorem aiu (hC:∀ x y,C x y=some (f x y)) (hq:∀ x y,q (f x y)=lt x y) (a0:List α) (a:Nat) {n:Nat}:∀ (m i j:Nat) (d:Array α) (k:Nat),j+1 - i<=m->1<=i->i<=j+2->a0.length=d.size->d.size < 1152921504606846976->a < d.size->j < d.size->d.size < n->m < k->
 iter (nD C q n a0 (a:Int)) k ((i:Int),(j:Int),d.toList)=some (((partLoop lt a i j d).1:Int),(partLoop lt a i j d).2.toList)∧(partLoop lt a i j d).2.size=d.size∧(partLoop lt a i j d).1<=j:=by
 intro m
 induction m with
 |zero=>
  intro i j d k hm h1 hij h0 hs ha hj hn hk;obtain⟨k,rfl⟩:∃ m,k=m+1:=⟨k - 1,by omega⟩;have s2:=wM (fun x=>lt x d[a]!) d j (akw hC hq a0 d h0 hs ha hj) (j+1) i n (by omega) hij (by omega);have u1:=scanUp_ge (fun x=>lt x d[a]!) d j i;have u2:=scanDown_le (fun x=>!lt x d[a]!) d (scanUp (fun x=>lt x d[a]!) d j i) j;have s3:=nE (fun x=>!lt x d[a]!) d (scanUp (fun x=>lt x d[a]!) d j i) (by omega) (akx hC hq a0 d h0 hs ha) j n hj (by omega);rw[partLoop_eq];have hc:scanUp (fun x=>lt x d[a]!) d j i>scanDown (fun x=>!lt x d[a]!) d (scanUp (fun x=>lt x d[a]!) d j i) j:=by omega
  have c:decide (((scanUp (fun x=>lt x d[a]!) d j i:Nat):Int)>((scanDown (fun x=>!lt x d[a]!) d (scanUp (fun x=>lt x d[a]!) d j i) j:Nat):Int))=true:=by simp;omega
  rw[aJ hc];exact⟨bF (by simp only[nD,s2,ah,s3,c,au]),rfl,u2⟩
 |succ m ih=>
  intro i j d k hm h1 hij h0 hs ha hj hn hk;obtain⟨k,rfl⟩:∃ m,k=m+1:=⟨k - 1,by omega⟩;have s2:=wM (fun x=>lt x d[a]!) d j (akw hC hq a0 d h0 hs ha hj) (j+1) i n (by omega) hij (by omega);have u1:=scanUp_ge (fun x=>lt x d[a]!) d j i;have u2:=scanDown_le (fun x=>!lt x d[a]!) d (scanUp (fun x=>lt x d[a]!) d j i) j;have s3:=nE (fun x=>!lt x d[a]!) d (scanUp (fun x=>lt x d[a]!) d j i) (by omega) (akx hC hq a0 d h0 hs ha) j n hj (by omega);rw[partLoop_eq];generalize scanUp (fun x=>lt x d[a]!) d j i=I at*;generalize scanDown (fun x=>!lt x d[a]!) d I j=J at*;by_cases hc:I>J
  ·have c:decide (((I:Nat):Int)>((J:Nat):Int))=true:=(by simp;omega);rw[aJ hc];exact⟨bF (by simp only[nD,s2,ah,s3,c,au]),rfl,u2⟩
  ·have c:decide (((I:Nat):Int)>((J:Nat):Int))=false:=(by simp;omega);rw[aD hc];have gI:I < d.size:=(by omega);have gJ:J < d.size:=(by omega);have s:nD C q n a0 (a:Int) ((i:Int),(j:Int),d.toList)=some (.inl (((I+1:Nat):Int),((J - 1:Nat):Int),(swp d I J).toList)):=by
    simp only[nD,s2,ah,s3,c,aA,jT (show J < a0.length by omega),jT (show I < a0.length by omega),au,fT gJ,fT gI,EI,GV gJ,GX];rw[aN (by omega),w1 (by omega) (by omega)]
   have zz:(swp d I J).size=d.size:=size_swp _ _ _;obtain⟨g1,g2,g3⟩:=ih (I+1) (J - 1) (swp d I J) k (by omega) (by omega) (by omega) (by rw[zz];exact h0) (by rw[zz];exact hs) (by rw[zz];exact ha) (by rw[zz];omega) (by rw[zz];exact hn) (by omega);exact⟨by rw[dK s];exact g1,by rw[g2,zz],by omega⟩
theorem Wp (hC:∀ x y,C x y=some (f x y)) (hq:∀ x y,q (f x y)=lt x y) {d:Array α} {a b p n:Nat} (hap:a<=p) (hpb:p < b) (hb:b<=d.size) (hs:d.size < 1152921504606846976) (hn:d.size < n):
 rA C q n d.toList (a:Int) (b:Int) (p:Int)=some (((partition lt d a b p).1:Int),(partition lt d a b p).2.1,(partition lt d a b p).2.2.toList)∧(partition lt d a b p).2.2.size=d.size:=by
 have ga:a < d.size:=by omega
 have gp:p < d.size:=by omega
 have zz:(swp d a p).size=d.size:=size_swp _ _ _;have ll:d.toList.length=d.size:=by simp
 have ea:d.toList[a]! =d[a]! :=by rw[getElem!_pos d a ga,getElem!_pos d.toList a (by omega)];simp
 have ep:d.toList[p]! =d[p]! :=by rw[getElem!_pos d p gp,getElem!_pos d.toList p (by omega)];simp
 have he:((d.toList.set (((0:Nat):Int)+(a:Int)).toNat d.toList[p]!).set (((0:Nat):Int)+(p:Int)).toNat d.toList[a]!)=(swp d a p).toList:=by rw[ea,ep,EI,EI];rfl
 have h0:d.toList.length=(swp d a p).size:=by rw[zz,ll]
 have s1:iter (qx C q d.toList (a:Int) (b:Int) (p:Int) d[p]! d[a]!) n ((a+1:Nat):Int)=some ((scanUp (fun x=>lt x (swp d a p)[a]!) (swp d a p) (b - 1) (a+1):Nat):Int):=by
  rw[<- ea,<- ep,show qx C q d.toList (a:Int) (b:Int) (p:Int) d.toList[p]! d.toList[a]! =kN C q d.toList (a:Int) ((b - 1:Nat):Int) (swp d a p).toList from funext fun v=>alv d.toList (swp d a p) (by omega) (by rw[zz];exact hs) (by rw[zz];exact hb) he v];exact wM (fun x=>lt x (swp d a p)[a]!) (swp d a p) (b - 1) (akw hC hq d.toList (swp d a p) h0 (by rw[zz];exact hs) (by rw[zz];exact ga) (by rw[zz];omega)) (b - 1+1) (a+1) n (by omega) (by omega) (by omega)
 have u1:=scanUp_ge (fun x=>lt x (swp d a p)[a]!) (swp d a p) (b - 1) (a+1);have s2:iter (qy C q d.toList (a:Int) (p:Int) d[p]! d[a]! ((scanUp (fun x=>lt x (swp d a p)[a]!) (swp d a p) (b - 1) (a+1):Nat):Int)) n ((b - 1:Nat):Int)=some ((scanDown (fun x=>!lt x (swp d a p)[a]!) (swp d a p) (scanUp (fun x=>lt x (swp d a p)[a]!) (swp d a p) (b - 1) (a+1)) (b - 1):Nat):Int):=by
  rw[<- ea,<- ep,show qy C q d.toList (a:Int) (p:Int) d.toList[p]! d.toList[a]! ((scanUp (fun x=>lt x (swp d a p)[a]!) (swp d a p) (b - 1) (a+1):Nat):Int)=kP C q d.toList (a:Int) (swp d a p).toList ((scanUp (fun x=>lt x (swp d a p)[a]!) (swp d a p) (b - 1) (a+1):Nat):Int)from funext fun v=>alx d.toList (swp d a p) he v];exact nE (fun x=>!lt x (swp d a p)[a]!) (swp d a p) _ (by omega) (akx hC hq d.toList (swp d a p) h0 (by rw[zz];exact hs) (by rw[zz];exact ga)) (b - 1) n (by rw[zz];omega) (by omega)
 have u2:=scanDown_le (fun x=>!lt x (swp d a p)[a]!) (swp d a p) (scanUp (fun x=>lt x (swp d a p)[a]!) (swp d a p) (b - 1) (a+1)) (b - 1);unfold rA partition;simp only[jT (show p < d.toList.length by omega),jT (show a < d.toList.length by omega),au,fT gp,fT ga,ah,EI,GV gp,GX];rw[aN (by omega),w1 (by omega) (by omega),s1];simp only[ah];rw[s2];simp only[ah];generalize swp d a p=D at*;generalize scanUp (fun x=>lt x D[a]!) D (b - 1) (a+1)=I at*;generalize scanDown (fun x=>!lt x D[a]!) D I (b - 1)=J at*;have gJ:J < D.size:=by omega
 have gA':a < D.size:=by omega
 by_cases hc:I>J
 ·have c:decide (((I:Nat):Int)>((J:Nat):Int))=true:=by simp;omega
  rw[aJ hc];refine⟨?_,by simp[size_swp,zz]⟩;simp only[c,au,jT (show J < d.toList.length by omega),fT gJ,fT gA',ah,EI,GV gA',GX]
 ·have c:decide (((I:Nat):Int)>((J:Nat):Int))=false:=by simp;omega
  rw[aD hc];have gI:I < D.size:=by omega
  have zD:(swp D I J).size=D.size:=size_swp _ _ _;obtain⟨g1,g2,g3⟩:=aiu (n:=n) hC hq d.toList a d.size (I+1) (J - 1) (swp D I J) n (by omega) (by omega) (by omega) (by omega) (by omega) (by omega) (by omega) (by omega) hn;generalize partLoop lt a (I+1) (J - 1) (swp D I J)=L at*;have gL:L.1 < L.2.size:=by omega
  have gLa:a < L.2.size:=by omega
  refine⟨?_,by simp only[size_swp];omega⟩;simp only[c,aA,au,jT (show J < d.toList.length by omega),jT (show I < d.toList.length by omega),fT gJ,fT gI,ah,EI,GV gJ,GX];rw[aN (by omega),w1 (by omega) (by omega),g1];simp only[ah,au,jT (show L.1 < d.toList.length by omega),fT gL,fT gLa,EI,GV gLa,GX]
end
section
variable {α R:Type} [Inhabited α]
def X8 (C:α->α->Option R) (q:R->Bool) (n:Nat) (rc:((List α))->(Int)->(Int)->(Int)->Option (List α)) (a0:List α) (v1 v2 v7:Int) (v4 v5:Bool) (v9:Int) (v13:List α):Option ((Int×Int×Int×Bool×Bool×(List α)) ⊕ (Unit ⊕ (List α))):=
 ((bif (decide (v1>(0:Int)))then bif inb (i64.wrap (v1 - 1)) a0.length then (at? v13 ((0:Nat)+(i64.wrap (v1 - 1)):Int)).bind fun x1=>bif inb v9 a0.length then (at? v13 ((0:Nat)+v9:Int)).bind fun x2=>(C x1 x2).bind fun r7=>some (!(q r7))else none else none else some false):Option (Bool)).bind fun v14=>(bif v14 then bif eqL a0.length v13.length then (jh C q n v13 v1 v2 v9).bind fun r8=>some (.inl (r8.1,v2,v7,v4,v5,r8.2))else none else bif eqL a0.length v13.length then (rA C q n v13 v1 v2 v9).bind fun r9=>bif 8 != 0 then (bif (decide ((i64.wrap (r9.1 - v1)) < ((i64.wrap (v2 - r9.1)):Int)))then bif eqL a0.length r9.2.2.length then (rc r9.2.2 v1 r9.1 v7).bind fun r10=>some (.inl ((i64.wrap (r9.1+1)),v2,v7,(decide ((i64.wrap (r9.1 - v1))>=((i64.wrap (Int.tdiv (i64.wrap (v2 - v1)) 8)):Int))),r9.2.1,r10))else none else bif eqL a0.length r9.2.2.length then (rc r9.2.2 (i64.wrap (r9.1+1)) v2 v7).bind fun r11=>some (.inl (v1,r9.1,v7,(decide ((i64.wrap (v2 - r9.1))>=((i64.wrap (Int.tdiv (i64.wrap (v2 - v1)) 8)):Int))),r9.2.1,r11))else none)else none else none)
variable {C:α->α->Option R} {q:R->Bool} {f:α->α->R} {lt:α->α->Bool} {npt:Int->Option Int} {xsh:Int->Option (Int×Int)}
theorem Mi (d:Array α) {a b:Nat} (hab:a<=b) (hb:b<=d.size):(reverseRange d a b).size=d.size:=(reverseRange_holds d a b hab hb).1
theorem KC (d:Array α) {a b:Nat} (hab:a<=b) (hb:b<=d.size):(breakPatterns d a b).size=d.size:=(breakPatterns_holds d a b hab hb).1
theorem Jc (hC:∀ x y,C x y=some (f x y)) (hq:∀ x y,q (f x y)=lt x y) (hnp:X6 npt) (hx:Ut xsh) {n:Nat} {rc:((List α))->(Int)->(Int)->(Int)->Option (List α)} {a0:List α} {d d1 d2:Array α} {a b limit limit' pivot:Nat} {wb wp:Bool} {c:Nat×Hint} {hint:Hint} {pi:Array α×Bool}
 (h0:a0.length=d.size) (hb:b<=d.size) (hs:d.size < 1152921504606846976) (hn:d.size < n) (h12:¬ b - a<=12) (hl:¬ limit=0) (hlm:limit < 1152921504606846976)
 (e1:d1=if !wb then breakPatterns d a b else d) (el:limit'=if !wb then limit - 1 else limit) (ec:c=choosePivot lt d1 a b) (e2:d2=if c.2= .decreasing then reverseRange d1 a b else d1)
 (ep:pivot=if c.2= .decreasing then (b - 1) - (c.1 - a)else c.1) (eh:hint=if c.2= .decreasing then Hint.increasing else c.2)
 (ei:pi=if wb&&wp&&decide (hint= .increasing)then partialInsertionSort lt d2 a b else (d2,false)):
 rU C q npt xsh n rc a0 ((a:Int),(b:Int),(limit:Int),wb,wp,d.toList)=if pi.2 then some (.inr (.inr pi.1.toList))else X8 C q n rc a0 (a:Int) (b:Int) (limit':Int) wb wp (pivot:Int) pi.1.toList:=by
 have E1:i64.wrap ((b:Int) - (a:Int))=((b - a:Nat):Int):=GY (by omega) (by omega);have c12:decide (((b - a:Nat):Int)<=12)=false:=by simp;omega
 have cl:((limit:Int)==0)=false:=by rw[beq_eq_false_iff_ne];omega
 have s1:d1.size=d.size:=by
  rw[e1];split
  ·exact KC d (by omega) hb
  ·rfl
 have s2:d2.size=d.size:=by
  rw[e2];split
  ·rw[Mi d1 (by omega) (by omega),s1]
  ·exact s1
 have ch1:((bif (!wb)then bif eqL a0.length d.toList.length then (jH npt xsh n d.toList (a:Int) (b:Int)).bind fun r3=>some ((i64.wrap ((limit:Int) - 1)),r3)else none else some ((limit:Int),d.toList)):Option (Int×(List α)))=some ((limit':Int),d1.toList):=by
  rw[e1,el];cases wb with
  |true=>rfl
  |false=>
   rw[Ur (by simpa using h0),Mh hnp hx (by omega) hb hs (by omega),w1 (by omega) (by omega)];rfl
 have hsub:(sub d1.toList 0 a0.length)=d1.toList:=by rw[show a0.length=d1.toList.length by rw[h0,<- s1];simp,bE]
 have hcr:=choosePivot_holds lt d1 a b (by omega);rw[<- ec]at hcr;have ch2:=Rl hC hq (d:=d1) (a:=a) (b:=b) (by omega) (by omega) (by omega);rw[<- ec]at ch2;have ch3:((bif ((QJ c.2)==(2:Int))then bif eqL a0.length d1.toList.length then (kM n d1.toList (a:Int) (b:Int)).bind fun r5=>some ((i64.wrap ((i64.wrap ((b:Int) - 1)) - (i64.wrap ((c.1:Int) - (a:Int))))),(1:Int),r5)else none else some ((c.1:Int),QJ c.2,d1.toList)):Option (Int×Int×(List α)))=some ((pivot:Int),QJ hint,d2.toList):=by
  rw[e2,ep,eh];cases hh:c.2 with
  |decreasing=>
   rw[Ur (by rw[h0,<- s1];simp),OM (by omega) (by omega) (by omega) (by omega),w1 (by omega) (by omega),GY hcr.1 (by omega),GY (by omega) (by omega)];rfl
  |increasing=>rfl
  |unknown=>rfl
 have ch4:(((bif wb then (bif wp then some ((QJ hint)==(1:Int))else some false)else some false):Option (Bool)).bind fun v12=>(bif v12 then bif eqL a0.length d2.toList.length then (fF C q n d2.toList (a:Int) (b:Int)).bind fun r6=>(bif r6.1 then ((some r6.2).map fun a=> .inr (.inr a)).map .inr else some (.inl r6.2))else none else some (.inl d2.toList)))=(some (if pi.2 then .inr (.inr (.inr pi.1.toList))else .inl pi.1.toList):Option (List α ⊕ ((Int×Int×Int×Bool×Bool×(List α)) ⊕ (Unit ⊕ (List α))))):=by
  rw[ei];have hh:((QJ hint)==(1:Int))=decide (hint= .increasing):=by cases hint<;>rfl
  have g:=Cc hC hq (d:=d2) (a:=a) (b:=b) (n:=n) (by omega) (by omega) (by omega) (by omega) (by omega);cases wb with
  |false=>rfl
  |true=>
   cases wp with
   |false=>rfl
   |true=>
    simp only[au,ah,hh,Bool.true_and];cases decide (hint= .increasing)with
    |false=>rfl
    |true=>
     rw[Ur (by rw[h0,<- s2];simp),g.1];simp only[au,ah,if_true];cases (partialInsertionSort lt d2 a b).2<;>rfl
 have hel:eqL d1.toList.length a0.length=true:=Ur (by rw[h0,<- s1];simp);simp only[rU,E1,c12,aA,cl,ch1,ah,hsub,hel,au,ch2,ch3];rw[ch4];cases pi.2 with
 |true=>rfl
 |false=>simp only[X8,E1,Bool.false_eq_true,if_false,fD]
theorem aiv (hC:∀ x y,C x y=some (f x y)) (hq:∀ x y,q (f x y)=lt x y) {n:Nat} {rc:((List α))->(Int)->(Int)->(Int)->Option (List α)} {a0:List α} {d3 d4:Array α} {a b limit' pivot mid:Nat} {wb wp:Bool}
 (h0:a0.length=d3.size) (hb:b<=d3.size) (hs:d3.size < 1152921504606846976) (hn:d3.size < n) (hp1:a<=pivot) (hp2:pivot < b) (hc:(decide (a>0)&&!lt d3[a - 1]! d3[pivot]!)=true) (hx:partitionEqual lt d3 a b pivot=(mid,d4)):
 X8 C q n rc a0 (a:Int) (b:Int) (limit':Int) wb wp (pivot:Int) d3.toList=some (.inl ((mid:Int),(b:Int),(limit':Int),wb,wp,d4.toList)):=by
 rw[aK,aM]at hc;have c0:decide ((a:Int)>0)=true:=by simp;omega
 have ga:a - 1 < d3.size:=by omega
 have gp:pivot < d3.size:=by omega
 have g:=(KA hC hq (n:=n) hp1 hp2 hb hs hn).1;rw[hx]at g;have hc2:=hc.2;simp only[X8,c0,au,w1 (show 0 < a by omega) (show a<=9223372036854775807 by omega),jT (show a - 1 < a0.length by omega),fT ga,ah,jT (show pivot < a0.length by omega),fT gp,hC,hq,hc2,g];rw[Ur (by simpa using h0)];rfl
theorem Uv (hC:∀ x y,C x y=some (f x y)) (hq:∀ x y,q (f x y)=lt x y) {n:Nat} {rc:((List α))->(Int)->(Int)->(Int)->Option (List α)} {a0:List α} {d3 d4:Array α} {a b limit' pivot mid:Nat} {wb wp ap:Bool}
 (h0:a0.length=d3.size) (hb:b<=d3.size) (hs:d3.size < 1152921504606846976) (hn:d3.size < n) (hp1:a<=pivot) (hp2:pivot < b) (hc:(decide (a>0)&&!lt d3[a - 1]! d3[pivot]!)=false) (hx:partition lt d3 a b pivot=(mid,ap,d4)) (hm1:a<=mid) (hm2:mid < b):
 X8 C q n rc a0 (a:Int) (b:Int) (limit':Int) wb wp (pivot:Int) d3.toList=
  if mid - a < b - mid then (rc d4.toList (a:Int) (mid:Int) (limit':Int)).bind fun r=>some (.inl (((mid+1:Nat):Int),(b:Int),(limit':Int),decide (mid - a>=(b - a)/8),ap,r))
  else (rc d4.toList ((mid+1:Nat):Int) (b:Int) (limit':Int)).bind fun r=>some (.inl ((a:Int),(mid:Int),(limit':Int),decide (b - mid>=(b - a)/8),ap,r)):=by
 have gp:pivot < d3.size:=by omega
 have chk:((bif (decide ((a:Int)>(0:Int)))then bif inb (i64.wrap ((a:Int) - 1)) a0.length then (at? d3.toList ((0:Nat)+(i64.wrap ((a:Int) - 1)):Int)).bind fun x1=>bif inb (pivot:Int) a0.length then (at? d3.toList ((0:Nat)+(pivot:Int):Int)).bind fun x2=>(C x1 x2).bind fun r7=>some (!(q r7))else none else none else some false):Option (Bool))=some false:=by
  by_cases ha:a>0
  ·have c0:decide ((a:Int)>0)=true:=(by simp;omega);have ga:a - 1 < d3.size:=(by omega);have hc2:(!lt d3[a - 1]! d3[pivot]!)=false:=(by simpa[ha]using hc);simp only[c0,au,w1 (show 0 < a by omega) (show a<=9223372036854775807 by omega),jT (show a - 1 < a0.length by omega),fT ga,ah,jT (show pivot < a0.length by omega),fT gp,hC,hq,hc2]
  ·have c0:decide ((a:Int)>0)=false:=(by simp;omega);simp only[c0,aA]
 have g:=Wp hC hq (n:=n) hp1 hp2 hb hs hn;rw[hx]at g;obtain⟨g,gz⟩:=g;simp only[]at g gz;have E1:i64.wrap ((b:Int) - (a:Int))=((b - a:Nat):Int):=GY (by omega) (by omega);have E2:i64.wrap ((mid:Int) - (a:Int))=((mid - a:Nat):Int):=GY (by omega) (by omega);have E3:i64.wrap ((b:Int) - (mid:Int))=((b - mid:Nat):Int):=GY (by omega) (by omega);have E4:i64.wrap (Int.tdiv ((b - a:Nat):Int) 8)=(((b - a)/8:Nat):Int):=by rw[show (8:Int)=((8:Nat):Int)from rfl,Mg,oG (by omega)]
 have E5:i64.wrap ((mid:Int)+1)=((mid+1:Nat):Int):=aN (by omega);have D1:decide (((mid - a:Nat):Int)>=(((b - a)/8:Nat):Int))=decide (mid - a>=(b - a)/8):=by rw[decide_eq_decide];omega
 have D2:decide (((b - mid:Nat):Int)>=(((b - a)/8:Nat):Int))=decide (b - mid>=(b - a)/8):=by rw[decide_eq_decide];omega
 have L1:eqL a0.length d3.toList.length=true:=Ur (by simpa using h0);have L2:eqL a0.length d4.toList.length=true:=Ur (by rw[h0,<- gz];simp);have eight:(8 != 0)=true:=rfl;unfold X8;rw[chk];simp only[ah,aA,L1,au,g,eight,E1,E2,E3,E4,E5,D1,D2,L2];by_cases hlt:mid - a < b - mid
 ·have c:decide (((mid - a:Nat):Int) < ((b - mid:Nat):Int))=true:=by simp;omega
  rw[c,aJ hlt];rfl
 ·have c:decide (((mid - a:Nat):Int) < ((b - mid:Nat):Int))=false:=by simp;omega
  rw[c,aD hlt];rfl
theorem ahb (hS:SWO lt) (hC:∀ x y,C x y=some (f x y)) (hq:∀ x y,q (f x y)=lt x y) (hnp:X6 npt) (hx:Ut xsh) {n:Nat} {rc:((List α))->(Int)->(Int)->(Int)->Option (List α)} {a0:List α} (hs:a0.length < 1152921504606846976) (hn:a0.length < n) (M:Nat)
 (hrc:∀ (d':Array α) (a' b' l':Nat),d'.size=a0.length->a'<=b'->b'<=d'.size->Below lt a' b' d'->b' - a' < M->l' < 1152921504606846976->rc d'.toList (a':Int) (b':Int) (l':Int)=some (pdq lt d' a' b' l' true true).toList)
 (d:Array α) (a b limit:Nat) (wb wp:Bool):a<=b->b<=d.size->d.size=a0.length->Below lt a b d->b - a<=M->limit < 1152921504606846976->∀ k,b - a < k->
 iter (rU C q npt xsh n rc a0) k ((a:Int),(b:Int),(limit:Int),wb,wp,d.toList)=some (.inr (pdq lt d a b limit wb wp).toList):=by
 fun_induction pdq lt d a b limit wb wp
 case case1 d a b limit wb wp h12=>
  intro hab hb h0 hB hM hlm k hk;obtain⟨k,rfl⟩:∃ m,k=m+1:=⟨k - 1,by omega⟩;have E1:i64.wrap ((b:Int) - (a:Int))=((b - a:Nat):Int):=GY (by omega) (by omega);have c12:decide (((b - a:Nat):Int)<=12)=true:=by simp;omega
  refine bF ?_;simp only[rU,E1,c12,au,Me hC hq (show d.size < 4611686018427387904 by omega) hb hab (show d.size < n by omega),ah,Option.map_some];rw[Ur (by rw[<- h0];simp)];rfl
 case case2 d a b wb wp h12=>
  intro hab hb h0 hB hM hlm k hk;obtain⟨k,rfl⟩:∃ m,k=m+1:=⟨k - 1,by omega⟩;have E1:i64.wrap ((b:Int) - (a:Int))=((b - a:Nat):Int):=GY (by omega) (by omega);have c12:decide (((b - a:Nat):Int)<=12)=false:=by simp;omega
  refine bF ?_;have z:(((0:Nat):Int)==0)=true:=rfl;simp only[rU,E1,c12,aA,z,au,Zt hC hq (show d.size < 1152921504606846976 by omega) hb (show a < b by omega) (show d.size < n by omega),ah,Option.map_some];rw[Ur (by rw[<- h0];simp)];rfl
 case case3 d a b limit wb wp h12 hl d1 c d2 hint pi hpi2=>
  intro hab hb h0 hB hM hlm k hk;obtain⟨k,rfl⟩:∃ m,k=m+1:=⟨k - 1,by omega⟩;have pre:=Jc hC hq hnp hx (n:=n) (rc:=rc) (a0:=a0) (d:=d) (d1:=d1) (d2:=d2) (a:=a) (b:=b) (limit:=limit) (wb:=wb) (wp:=wp) (c:=c) (hint:=hint) (pi:=pi) h0.symm hb (by omega) (by omega) h12 hl hlm rfl rfl rfl rfl rfl rfl rfl;refine bF ?_;rw[pre,aJ hpi2]
 case case4 d a b limit0 wb wp h12 hl d1 limit c d2 pivot hint pi hpi2 d3 hc mid d4 hx4 hg ih1=>
  intro hab hb h0 hB hM hlm k hk;obtain⟨k,rfl⟩:∃ m,k=m+1:=⟨k - 1,by omega⟩;have s1:PermIn a b d d1:=step_break d hab hb _;have b1:b<=d1.size:=by rw[s1.1];exact hb
  have s2:PermIn a b d1 d2:=step_reverse reverseRange_holds d1 hab b1 _;have b2:b<=d2.size:=by rw[s2.1];exact b1
  have B2:Below lt a b d2:=(hB.perm hb s1).perm b1 s2;have s3:=step_partial partialInsertionSort_holds hS d2 (a:=a) (b:=b) (by omega) b2 B2 ((wb&&wp&&decide (hint=Hint.increasing))=true);have s3':PermIn a b d2 d3:=s3.1;have b3:b<=d3.size:=by rw[s3'.1];exact b2
  have B3:Below lt a b d3:=B2.perm b2 s3';have P3:PermIn a b d d3:=permIn_trans _ _ _ a b (permIn_trans _ _ _ a b s1 s2) s3';have hc0:=choosePivot_holds lt d1 a b (by omega);have hpv:a<=pivot∧pivot < b:=pivot_range hc0.1 hc0.2 _;have hc':=hc;simp only[aK,aM,Bool.not_eq_true']at hc';obtain⟨hm1,hm2,hs4,hB4,hfin⟩:=round_eq hS (partitionEqual_holds lt) hc'.1 hpv.1 hpv.2 b3 B3 hc'.2 hx4;have pre:=Jc hC hq hnp hx (n:=n) (rc:=rc) (a0:=a0) (d:=d) (d1:=d1) (d2:=d2) (a:=a) (b:=b) (limit:=limit0) (limit':=limit) (pivot:=pivot) (wb:=wb) (wp:=wp) (c:=c) (hint:=hint) (pi:=pi) h0.symm hb (by omega) (by omega) h12 hl hlm rfl rfl rfl rfl rfl rfl rfl;have z3:d3.size=a0.length:=by rw[P3.1];exact h0
  rw[aD hpi2,aiv hC hq (a0:=a0) (d3:=d3) (d4:=d4) (mid:=mid) z3.symm b3 (by omega) (by omega) hpv.1 hpv.2 hc hx4]at pre;rw[dK pre];have ll:limit < 1152921504606846976:=by
   have:limit<=limit0:=(by show (dite _ _ _)<=_;split<;>omega);omega
  exact ih1 hm2 (by rw[hs4];exact b3) (by rw[hs4];exact z3) hB4 (by omega) ll k (by omega)
 case case5 d a b limit wb wp h12 hl d1 c d2 pivot hint pi hpi2 d3 hc mid d4 hx4 hg=>
  intro hab hb h0 hB hM hlm k hk;have s1:PermIn a b d d1:=step_break d hab hb _;have b1:b<=d1.size:=by rw[s1.1];exact hb
  have s2:PermIn a b d1 d2:=step_reverse reverseRange_holds d1 hab b1 _;have b2:b<=d2.size:=by rw[s2.1];exact b1
  have B2:Below lt a b d2:=(hB.perm hb s1).perm b1 s2;have s3:=step_partial partialInsertionSort_holds hS d2 (a:=a) (b:=b) (by omega) b2 B2 ((wb&&wp&&decide (hint=Hint.increasing))=true);have s3':PermIn a b d2 d3:=s3.1;have b3:b<=d3.size:=by rw[s3'.1];exact b2
  have B3:Below lt a b d3:=B2.perm b2 s3';have hc0:=choosePivot_holds lt d1 a b (by omega);have hpv:a<=pivot∧pivot < b:=pivot_range hc0.1 hc0.2 _;simp only[aK,aM,Bool.not_eq_true']at hc;obtain⟨g1,g2,_⟩:=round_eq hS (partitionEqual_holds lt) hc.1 hpv.1 hpv.2 b3 B3 hc.2 hx4;exact absurd ⟨g1,g2⟩ hg
 case case6 d a b limit0 wb wp h12 hl d1 limit c d2 pivot hint pi hpi2 d3 hc mid ap d4 hx4 hg hlt ih3 ih2 ih1=>
  intro hab hb h0 hB hM hlm k hk;obtain⟨k,rfl⟩:∃ m,k=m+1:=⟨k - 1,by omega⟩;have s1:PermIn a b d d1:=step_break d hab hb _;have b1:b<=d1.size:=by rw[s1.1];exact hb
  have s2:PermIn a b d1 d2:=step_reverse reverseRange_holds d1 hab b1 _;have b2:b<=d2.size:=by rw[s2.1];exact b1
  have B2:Below lt a b d2:=(hB.perm hb s1).perm b1 s2;have s3:=step_partial partialInsertionSort_holds hS d2 (a:=a) (b:=b) (by omega) b2 B2 ((wb&&wp&&decide (hint=Hint.increasing))=true);have s3':PermIn a b d2 d3:=s3.1;have b3:b<=d3.size:=by rw[s3'.1];exact b2
  have B3:Below lt a b d3:=B2.perm b2 s3';have P3:PermIn a b d d3:=permIn_trans _ _ _ a b (permIn_trans _ _ _ a b s1 s2) s3';have hc0:=choosePivot_holds lt d1 a b (by omega);have hpv:a<=pivot∧pivot < b:=pivot_range hc0.1 hc0.2 _;obtain⟨g1,g2,hs4,hBa,hBr,hleft,_⟩:=round_part hS (partition_holds lt) hpv.1 hpv.2 b3 B3 hx4;have pre:=Jc hC hq hnp hx (n:=n) (rc:=rc) (a0:=a0) (d:=d) (d1:=d1) (d2:=d2) (a:=a) (b:=b) (limit:=limit0) (limit':=limit) (pivot:=pivot) (wb:=wb) (wp:=wp) (c:=c) (hint:=hint) (pi:=pi) h0.symm hb (by omega) (by omega) h12 hl hlm rfl rfl rfl rfl rfl rfl rfl;have z3:d3.size=a0.length:=by rw[P3.1];exact h0
  have ll:limit < 1152921504606846976:=by
   have:limit<=limit0:=(by show (dite _ _ _)<=_;split<;>omega);omega
  have hrc1:=hrc d4 a mid limit (by rw[hs4];exact z3) g1 (by rw[hs4];omega) hBa (by omega) ll;have hp4:=pdq_sorts lt hS d4 a mid limit true true g1 (by rw[hs4];omega) hBa;obtain⟨hBL,_⟩:=hleft _ hp4.1 hp4.2;rw[aD hpi2,Uv hC hq (a0:=a0) (d3:=d3) (d4:=d4) (mid:=mid) (ap:=ap) z3.symm b3 (by omega) (by omega) hpv.1 hpv.2 (by simpa using hc) hx4 g1 g2,aJ hlt,hrc1,ah]at pre;rw[dK pre];exact ih1 (by omega) (by rw[hp4.1.1,hs4];exact b3) (by rw[hp4.1.1,hs4];exact z3) hBL (by omega) ll k (by omega)
 case case7 d a b limit0 wb wp h12 hl d1 limit c d2 pivot hint pi hpi2 d3 hc mid ap d4 hx4 hg hlt ih3 ih2 ih1=>
  intro hab hb h0 hB hM hlm k hk;obtain⟨k,rfl⟩:∃ m,k=m+1:=⟨k - 1,by omega⟩;have s1:PermIn a b d d1:=step_break d hab hb _;have b1:b<=d1.size:=by rw[s1.1];exact hb
  have s2:PermIn a b d1 d2:=step_reverse reverseRange_holds d1 hab b1 _;have b2:b<=d2.size:=by rw[s2.1];exact b1
  have B2:Below lt a b d2:=(hB.perm hb s1).perm b1 s2;have s3:=step_partial partialInsertionSort_holds hS d2 (a:=a) (b:=b) (by omega) b2 B2 ((wb&&wp&&decide (hint=Hint.increasing))=true);have s3':PermIn a b d2 d3:=s3.1;have b3:b<=d3.size:=by rw[s3'.1];exact b2
  have B3:Below lt a b d3:=B2.perm b2 s3';have P3:PermIn a b d d3:=permIn_trans _ _ _ a b (permIn_trans _ _ _ a b s1 s2) s3';have hc0:=choosePivot_holds lt d1 a b (by omega);have hpv:a<=pivot∧pivot < b:=pivot_range hc0.1 hc0.2 _;obtain⟨g1,g2,hs4,hBa,hBr,_,hright⟩:=round_part hS (partition_holds lt) hpv.1 hpv.2 b3 B3 hx4;have pre:=Jc hC hq hnp hx (n:=n) (rc:=rc) (a0:=a0) (d:=d) (d1:=d1) (d2:=d2) (a:=a) (b:=b) (limit:=limit0) (limit':=limit) (pivot:=pivot) (wb:=wb) (wp:=wp) (c:=c) (hint:=hint) (pi:=pi) h0.symm hb (by omega) (by omega) h12 hl hlm rfl rfl rfl rfl rfl rfl rfl;have z3:d3.size=a0.length:=by rw[P3.1];exact h0
  have ll:limit < 1152921504606846976:=by
   have:limit<=limit0:=(by show (dite _ _ _)<=_;split<;>omega);omega
  have hrc1:=hrc d4 (mid+1) b limit (by rw[hs4];exact z3) (by omega) (by rw[hs4];exact b3) hBr (by omega) ll;have hp4:=pdq_sorts lt hS d4 (mid+1) b limit true true (by omega) (by rw[hs4];exact b3) hBr;obtain⟨hBL,_⟩:=hright _ hp4.1 hp4.2;rw[aD hpi2,Uv hC hq (a0:=a0) (d3:=d3) (d4:=d4) (mid:=mid) (ap:=ap) z3.symm b3 (by omega) (by omega) hpv.1 hpv.2 (by simpa using hc) hx4 g1 g2,aD hlt,hrc1,ah]at pre;rw[dK pre];exact ih1 g1 (by rw[hp4.1.1,hs4];omega) (by rw[hp4.1.1,hs4];exact z3) hBL (by omega) ll k (by omega)
 case case8 d a b limit wb wp h12 hl d1 c d2 pivot hint pi hpi2 d3 hc mid ap d4 hx4 hg=>
  intro hab hb h0 hB hM hlm k hk;have s1:PermIn a b d d1:=step_break d hab hb _;have b1:b<=d1.size:=by rw[s1.1];exact hb
  have s2:PermIn a b d1 d2:=step_reverse reverseRange_holds d1 hab b1 _;have b2:b<=d2.size:=by rw[s2.1];exact b1
  have B2:Below lt a b d2:=(hB.perm hb s1).perm b1 s2;have s3:=step_partial partialInsertionSort_holds hS d2 (a:=a) (b:=b) (by omega) b2 B2 ((wb&&wp&&decide (hint=Hint.increasing))=true);have s3':PermIn a b d2 d3:=s3.1;have b3:b<=d3.size:=by rw[s3'.1];exact b2
  have B3:Below lt a b d3:=B2.perm b2 s3';have hc0:=choosePivot_holds lt d1 a b (by omega);have hpv:a<=pivot∧pivot < b:=pivot_range hc0.1 hc0.2 _;obtain⟨g1,g2,_⟩:=round_part hS (partition_holds lt) hpv.1 hpv.2 b3 B3 hx4;exact absurd ⟨g1,g2⟩ hg
theorem ab1 (hS:SWO lt) (hC:∀ x y,C x y=some (f x y)) (hq:∀ x y,q (f x y)=lt x y) (hnp:X6 npt) (hx:Ut xsh) {n:Nat}:∀ (m:Nat) (d:Array α) (a b l:Nat),d.size < 1152921504606846976->d.size < n->a<=b->b<=d.size->Below lt a b d->b - a < m->l < 1152921504606846976->
 iQ C q npt xsh n m d.toList (a:Int) (b:Int) (l:Int)=some (pdq lt d a b l true true).toList
 | 0,d,a,b,l,hs,hn,hab,hb,hB,hm,hl=>by omega
 |m+1,d,a,b,l,hs,hn,hab,hb,hB,hm,hl=>by
  show jI C q npt xsh n (iQ C q npt xsh n m) d.toList (a:Int) (b:Int) (l:Int)=_;unfold jI;have z:d.toList.length=d.size:=by simp
  rw[ahb hS hC hq hnp hx (a0:=d.toList) (by omega) (by omega) m (fun d' a' b' l' h1 h2 h3 h4 h5 h6=>ab1 hS hC hq hnp hx m d' a' b' l' (by omega) (by omega) h2 h3 h4 h5 h6) d a b l true true hab hb (by omega) hB (by omega) hl n (by omega)];rfl
def zI (lt:α->α->Bool) (l:List α):List α:=(Go.Sort.sort lt l.toArray).toList
theorem zJ (hS:SWO lt) (hC:∀ x y,C x y=some (f x y)) (hq:∀ x y,q (f x y)=lt x y) (hnp:X6 npt) (hx:Ut xsh) {n m:Nat} {l:List α} (hl:l.length < 1152921504606846976) (hn:l.length < n) (hm:l.length < m):
 iQ C q npt xsh n m l 0 ((l.length:Nat):Int) ((bitsLen l.length:Nat):Int)=some (zI lt l):=by
 have hb:bitsLen l.length < 1152921504606846976:=by
  have:=lt_two_pow_bitsLen l.length;have h2:bitsLen l.length<=60:=(bitsLen_le_iff _ _).2 (by omega);omega
 have:=ab1 hS hC hq hnp hx (n:=n) m l.toArray 0 l.length (bitsLen l.length) (by simpa using hl) (by simpa using hn) (by omega) (by simp) (.inl rfl) (by omega) hb;have e:((0:Nat):Int)=0:=rfl;rw[e]at this;rw[show l.toArray.toList=l from rfl]at this;rw[this];unfold zI Go.Sort.sort;simp
theorem EJ (hS:SWO lt) (l:List α):(zI lt l).Perm l:=by
 obtain⟨h1,_⟩:=sort_sorts lt hS l.toArray;obtain⟨hs,_,hp⟩:=h1;unfold zI;have e1:((Go.Sort.sort lt l.toArray).extract 0 l.toArray.size).toList=(Go.Sort.sort lt l.toArray).toList:=by rw[<- hs];simp
 have e2:(l.toArray.extract 0 l.toArray.size).toList=l:=by simp
 rw[e1,e2]at hp;exact hp
theorem EK (hS:SWO lt) (l:List α):(zI lt l).Pairwise fun x y=>lt y x=false:=by
 obtain⟨h1,h2⟩:=sort_sorts lt hS l.toArray;have hs:=h1.1;unfold zI;rw[List.pairwise_iff_getElem];intro i j hi hj hij;simp only[Array.length_toList]at hi hj;have:=h2 i j (Nat.zero_le _) hij (by omega);rw[getElem!_pos _ j hj,getElem!_pos _ i hi]at this;simpa using this
theorem Mj (hS:SWO lt) (l:List α):(zI lt l).length=l.length:=(EJ hS l).length_eq
end
end Go.Gb
