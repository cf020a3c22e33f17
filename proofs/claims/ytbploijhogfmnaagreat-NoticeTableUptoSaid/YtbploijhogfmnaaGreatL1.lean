/-
  Plain lemmas on what the typed walk prints: loops, lists, numbers. No program in sight.
-/
import Derived.Test.YtbploijhogfmnaaGreatW5
import Derived.Sort.AssemblyPlain
import Derived.Sort.LotD4
import Derived.Sort.LotD5
open Go.IntKind (i64)
open Option (bind_some)
open List (mem_cons length_take nil_append length_append getElem_mem length_cons length_drop foldl_cons length_singleton pairwise_cons filter_append)
open Bool (and_eq_true)
namespace Go.Gb
open Go.RowKit
theorem dV {x:Int} (h1: -9223372036854775808<=x) (h2:x<=9223372036854775807):i64.wrap x=x:=by rw[IntKind.wrap_i64];omega
theorem jv {x:Nat} (h:x<=9223372036854775807):i64.wrap (x:Int)=(x:Int):=dV (by omega) (by omega)
theorem au {i:Nat} (h:i < 9223372036854775807):i64.wrap ((i:Int)+1)=((i+1:Nat):Int):=by rw[dV (by omega) (by omega)];omega
theorem nV {i:Nat} (h0:0 < i) (h:i<=9223372036854775807):i64.wrap ((i:Int) - 1)=((i - 1:Nat):Int):=by rw[dV (by omega) (by omega)];omega
section
variable {α β S V O W:Type}
@[simp] theorem AA (l:List α) (i:Nat):at? l (i:Int)=l[i]? :=by simp[at?]
theorem yD (l:List α) (i:Nat):at? l (((0:Nat):Int)+(i:Int))=l[i]? :=by simp[at?]
theorem aN {l:List α} {i:Nat} (h:i < l.length):at? l (i:Int)=some l[i]:=by simp[h]
theorem cK {l:List α} {i:Nat} (h:i < l.length):at? l (((0:Nat):Int)+(i:Int))=some l[i]:=by rw[yD];simp[h]
@[simp] theorem XE (i n:Nat):inb (i:Int) n=decide (i < n):=by simp[inb]
theorem bR {i n:Nat} (h:i < n):inb (i:Int) n=true:=by simp[h]
@[simp] theorem fO (a:α) (f:α->β):oO a f=f a:=rfl
@[simp] theorem aC (a:Nat):eqL a a=true:=by simp[eqL]
theorem Mf {a b:Nat} (h:a=b):eqL a b=true:=by simp[eqL,h]
@[simp] theorem bS (l:List α):sub l 0 l.length=l:=by simp[sub]
@[simp] theorem acX (n b:Nat):bO 0 0 n n b=(decide (n*b<=140737488355328)&&decide (n<=maxLen)):=by simp[bO]
theorem eH {a n b:Nat} (h1:(a+n)*b<=140737488355328) (h2:a+n<=maxLen):bO a a n n b=true:=by simp[bO,h1,h2]
theorem jB {l h:Int} {n:Nat} (h1:0<=l) (h2:l<=h) (h3:h<=(n:Int)):kI l h n=true:=by simp[kI,h1,h2,h3]
@[simp] theorem iH (w:W) (f:W->Option α):dm (some (Sum.inl w:W ⊕ α)) f=f w:=rfl
@[simp] theorem Cc (a:α) (f:W->Option α):dm (some (Sum.inr a:W ⊕ α)) f=some a:=rfl
theorem Pw (step:V->Option (V ⊕ O)) (n:Nat) (v:V):iter step (n+1) v=(step v).bind fun r=>match r with
 | .inl v=>iter step n v
 | .inr o=>some o:=rfl
theorem aV {step:V->Option (V ⊕ O)} {n:Nat} {v v':V} (h:step v=some (.inl v')):iter step (n+1) v=iter step n v':=by rw[Pw,h];rfl
theorem aJ {step:V->Option (V ⊕ O)} {n:Nat} {v:V} {o:O} (h:step v=some (.inr o)):iter step (n+1) v=some o:=by rw[Pw,h];rfl
theorem lu {step:V->Option (V ⊕ O)} (g:Nat->V) (N:Nat) (o:O) (h:∀ i,i < N->step (g i)=some (.inl (g (i+1)))) (hN:step (g N)=some (.inr o)):
 ∀ n,N < n->iter step n (g 0)=some o:=by
 have main:∀ k i n,i+k=N->k < n->iter step n (g i)=some o:=by
  intro k
  induction k with
  |zero=>
   intro i n hi hn;obtain⟨m,rfl⟩:∃ m,n=m+1:=⟨n - 1,by omega⟩;have:i=N:=(by omega);subst this;exact aJ hN
  |succ k ih=>
   intro i n hi hn;obtain⟨m,rfl⟩:∃ m,n=m+1:=⟨n - 1,by omega⟩;rw[aV (h i (by omega))];exact ih (i+1) m (by omega) (by omega)
 intro n hn;exact main N 0 n (by omega) hn
def Fj (f:α->S->S ⊕ O) (fin:S->O):List α->S->O
 |[],s=>fin s
 |x::xs,s=>match f x s with
  | .inl s'=>Fj f fin xs s'
  | .inr o=>o
theorem Mg {l:List α} {step:V->Option (V ⊕ O)} (enc:Nat->S->V) (f:α->S->S ⊕ O) (fin:S->O) (Inv:Nat->S->Prop)
 (h:∀ i (hi:i < l.length) s,Inv i s->step (enc i s)=some (match f l[i] s with | .inl s'=> .inl (enc (i+1) s') | .inr o=> .inr o)∧∀ s',f l[i] s= .inl s'->Inv (i+1) s')
 (hend:∀ s,Inv l.length s->step (enc l.length s)=some (.inr (fin s))):∀ n,l.length < n->∀ s,Inv 0 s->iter step n (enc 0 s)=some (Fj f fin l s):=by
 have main:∀ k i n,i+k=l.length->k < n->∀ s,Inv i s->iter step n (enc i s)=some (Fj f fin (l.drop i) s):=by
  intro k
  induction k with
  |zero=>
   intro i n hi hn s hs;obtain⟨m,rfl⟩:∃ m,n=m+1:=⟨n - 1,by omega⟩;have:i=l.length:=(by omega);subst this;rw[aJ (hend s hs)];simp[Fj]
  |succ k ih=>
   intro i n hi hn s hs;obtain⟨m,rfl⟩:∃ m,n=m+1:=⟨n - 1,by omega⟩;have hil:i < l.length:=(by omega);obtain⟨h1,h2⟩:=h i hil s hs;rw[List.drop_eq_getElem_cons hil];simp only[Fj];cases hf:f l[i] s with
   |inl s'=>
    rw[hf]at h1;rw[aV h1];exact ih (i+1) m (by omega) (by omega) s' (h2 s' hf)
   |inr o=>
    rw[hf]at h1;rw[aJ h1]
 intro n hn s hs;have:=main l.length 0 n (by omega) hn s hs;simpa using this
theorem Mh (g:α->S->S) (fin:S->O):∀ (l:List α) (s:S),Fj (fun x s=> .inl (g x s)) fin l s=fin (l.foldl (fun s x=>g x s) s)
 |[],_=>rfl
 |x::xs,s=>by simp only[Fj,foldl_cons];exact Mh g fin xs _
theorem lK {l:List α} {step:V->Option (V ⊕ O)} (enc:Nat->S->V) (g:α->S->S) (fin:S->O) (Inv:Nat->S->Prop)
 (h:∀ i (hi:i < l.length) s,Inv i s->step (enc i s)=some (.inl (enc (i+1) (g l[i] s)))∧Inv (i+1) (g l[i] s))
 (hend:∀ s,Inv l.length s->step (enc l.length s)=some (.inr (fin s))) (n:Nat) (hn:l.length < n) (s:S) (hs:Inv 0 s):iter step n (enc 0 s)=some (fin (l.foldl (fun s x=>g x s) s)):=by rw[Mg enc (fun x s=> .inl (g x s)) fin Inv (fun i hi s hs=>⟨(h i hi s hs).1,fun s' hs'=>by injection hs' with hs';subst hs';exact (h i hi s hs).2⟩) hend n hn s hs,Mh]
theorem nW {l:List α} {step:V->Option (V ⊕ O)} (enc:Nat->S->V) (g:α->S->S) (fin:S->O)
 (h:∀ i (hi:i < l.length) s,step (enc i s)=some (.inl (enc (i+1) (g l[i] s))))
 (hend:∀ s,step (enc l.length s)=some (.inr (fin s))) (n:Nat) (hn:l.length < n) (s:S):iter step n (enc 0 s)=some (fin (l.foldl (fun s x=>g x s) s)):=
 lK enc g fin (fun _ _=>True) (fun i hi s _=>⟨h i hi s,trivial⟩) (fun s _=>hend s) n hn s trivial
def jw (p:α->Bool):List α->Option Nat
 |[]=>none
 |x::xs=>bif p x then some 0 else (jw p xs).map (· +1)
theorem iZ (p:α->Bool):∀ (l:List α),(∃ (i:Nat) (h:i < l.length),jw p l=some i∧p l[i]=true∧∀ j (hj:j < i),p (l[j]'(by omega))=false)∨(jw p l=none∧∀ x∈l,p x=false)
 |[]=> .inr ⟨rfl,by simp⟩
 |x::xs=>by
  cases hx:p x with
  |true=>exact .inl ⟨0,by simp,by simp[jw,hx],by simpa using hx,fun j hj=>by omega⟩
  |false=>
   rcases iZ p xs with ⟨i,h,h1,h2,h3⟩ |⟨h1,h2⟩
   ·refine .inl ⟨i+1,by simpa using h,by simp[jw,hx,h1],by simpa using h2,fun j hj=>?_⟩;cases j with
    |zero=>simpa using hx
    |succ j=>simpa using h3 j (by omega)
   ·exact .inr ⟨by simp[jw,hx,h1],by simpa[hx]using h2⟩
theorem iJ {l:List α} {step:V->Option (V ⊕ (W ⊕ O))} (enc:Nat->V) (p:α->Bool) (w:W) (out:Nat->O)
 (h:∀ i (hi:i < l.length),step (enc i)=some (bif p l[i]then .inr (.inr (out i))else .inl (enc (i+1))))
 (hend:step (enc l.length)=some (.inr (.inl w))) (n:Nat) (hn:l.length < n):iter step n (enc 0)=some (match jw p l with |some i=> .inr (out i) |none=> .inl w):=by
 rcases iZ p l with ⟨i,hi,h1,h2,h3⟩ |⟨h1,h2⟩
 ·rw[h1];refine lu enc i _ (fun j hj=>?_) ?_ n (by omega)
  ·rw[h j (by omega),h3 j hj];rfl
  ·rw[h i hi,h2];rfl
 ·rw[h1];refine lu enc l.length _ (fun j hj=>?_) hend n hn;rw[h j hj,h2 _ (getElem_mem hj)];rfl
theorem yE (p:α->Bool) (l:List α):(jw p l).isSome=l.any p:=by
 induction l with
 |nil=>rfl
 |cons x xs ih=>
  simp only[jw,List.any_cons];cases p x with
  |true=>rfl
  |false=>simp[ih]
end
section
variable {α:Type}
def iK (lt:α->α->Bool) (x:α):List α->List α
 |[]=>[x]
 |y::ys=>bif lt x y then y::iK lt x ys else x::y::ys
def mG (lt:α->α->Bool) (l:List α):List α:=(l.foldl (fun rs x=>iK lt x rs) []).reverse
variable {lt:α->α->Bool} {less:α->α->Option Bool}
theorem Dl (x:α):∀ ys:List α,(iK lt x ys).length=ys.length+1
 |[]=>rfl
 |y::ys=>by
  simp only[iK];cases lt x y<;>simp[Dl x ys]
theorem DI (x z:α):∀ ys:List α,z∈iK lt x ys↔z=x∨z∈ys
 |[]=>by simp[iK]
 |y::ys=>by
  simp only[iK];cases lt x y with
  |true=>simp only[cond_true,mem_cons,DI x z ys];exact⟨fun h=>by rcases h with h |h |h<;>simp[h],fun h=>by rcases h with h |h |h<;>simp[h]⟩
  |false=>simp
theorem YM (z:α) (l:List α):z∈mG lt l↔z∈l:=by
 unfold mG;rw[List.mem_reverse];have:∀ (l rs:List α),z∈l.foldl (fun rs x=>iK lt x rs) rs↔z∈l∨z∈rs:=by
  intro l
  induction l with
  |nil=>simp
  |cons x l ih=>intro rs;simp only[foldl_cons,ih,DI,mem_cons];exact⟨fun h=>by rcases h with h |h |h<;>simp[h],fun h=>by rcases h with (h |h) |h<;>simp[h]⟩
 simpa using this l []
theorem cO (l:List α):(mG lt l).length=l.length:=by
 unfold mG;rw[List.length_reverse];have:∀ (l rs:List α),(l.foldl (fun rs x=>iK lt x rs) rs).length=l.length+rs.length:=by
  intro l
  induction l with
  |nil=>simp
  |cons x l ih=>intro rs;simp only[foldl_cons,ih,Dl,length_cons];omega
 simpa using this l []
end
theorem insRev_sorted (x:Int):∀ ys:List Int,ys.Pairwise (· >= ·)->(iK (fun a b=>decide (a < b)) x ys).Pairwise (· >= ·)
 |[],_=>by simp[iK]
 |y::ys,h=>by
  simp only[iK];rw[pairwise_cons]at h;by_cases hxy:x < y
  ·simp only[hxy,decide_true,cond_true,pairwise_cons];refine⟨fun z hz=>?_,insRev_sorted x ys h.2⟩;rcases (DI x z ys).1 hz with rfl |hz
   ·exact Int.le_of_lt hxy
   ·exact h.1 z hz
  ·simp only[hxy,decide_false,cond_false,pairwise_cons,mem_cons];refine⟨fun z hz=>?_,h⟩;rcases hz with rfl |hz
   ·omega
   ·have:=h.1 z hz;omega
theorem isort_sorted (l:List Int):(mG (fun a b=>decide (a < b)) l).Pairwise (· <= ·):=by
 unfold mG;rw[List.pairwise_reverse];have:∀ (l rs:List Int),rs.Pairwise (· >= ·)->(l.foldl (fun rs x=>iK (fun a b=>decide (a < b)) x rs) rs).Pairwise (· >= ·):=by
  intro l
  induction l with
  |nil=>intro rs h;exact h
  |cons x l ih=>intro rs h;exact ih _ (insRev_sorted x rs h)
 exact this l [] List.Pairwise.nil
def fI:List Int->List Int
 |[]=>[]
 |[x]=>[x]
 |x::y::l=>bif x==y then fI (y::l)else x::fI (y::l)
theorem yF:∀ (l:List Int) (z:Int),z∈fI l↔z∈l
 |[],_=>by simp[fI]
 |[x],_=>by simp[fI]
 |x::y::l,z=>by
  simp only[fI];by_cases h:x=y
  ·subst h;simp only[beq_self_eq_true,cond_true,yF (x::l) z,mem_cons,or_self_left]
  ·have:(x==y)=false:=(by simp[h]);simp only[this,cond_false,mem_cons,yF (y::l) z]
def VP (l:List Int):List Int:=fI (mG (fun a b=>decide (a < b)) l)
theorem aau (l:List Int) (z:Int):z∈VP l↔z∈l:=by rw[VP,yF,YM]
section
variable {α:Type}
def XF (l:List α) (φ:(α×Unit)->Option Bool):Int->Option (Int ⊕ (Unit ⊕ Int))
 |v1=>(bif (decide (v1 < ((l.length:Int):Int)))then (at? l v1).bind fun x1=>(φ (x1,())).bind fun r1=>(bif r1 then (some v1).map fun a=> .inr (.inr a)else some (.inl (i64.wrap (v1+1))))else some (.inr (.inl ())))
def uO (n:Nat) (l:List α) (φ:(α×Unit)->Option Bool):Option Int:=
 dm (iter (XF l φ) n (0:Int)) fun ()=>some ((-1):Int)
def wQ (p:α->Bool) (l:List α):Int:=match jw p l with |some i=>(i:Int) |none=> -1
theorem Jl {n:Nat} {l:List α} {φ:(α×Unit)->Option Bool} (p:α->Bool) (h:∀ x∈l,φ (x,())=some (p x)) (hl:l.length<=9223372036854775807) (hn:l.length < n):uO n l φ=some (wQ p l):=by
 unfold uO;have:=iJ (l:=l) (step:=XF l φ) (fun i=>(i:Int)) p () (fun i=>(i:Int)) (fun i hi=>?_) ?_ n hn
 ·rw[show ((0:Nat):Int)=0 from rfl]at this;rw[this];unfold wQ;cases jw p l<;>rfl
 ·have hi':decide (((i:Nat):Int) < (l.length:Int))=true:=by simpa using hi
  simp only[XF,hi',cond_true,aN hi,bind_some,h _ (getElem_mem hi)];cases p l[i]with
  |true=>rfl
  |false=>simp only[cond_false];rw[au (by omega)]
 ·simp[XF]
theorem jy {n:Nat} {l:List α} {φ:(α×Unit)->Option Bool} (p:α->Bool) (h:∀ x∈l,φ (x,())=some (p x)) (hl:l.length < 1099511627776) (hn:l.length < n):uO n l φ=some (wQ p l):=Jl p h (by omega) hn
theorem Q7 (p:α->Bool) (l:List α):decide (wQ p l>=0)=l.any p:=by
 unfold wQ;rw[<- yE];cases jw p l<;>simp
def abH (eq:α->Bool) (l:List α):Int->Option (Int ⊕ (Unit ⊕ Int))
 |v1=>(bif (decide (v1 < ((l.length:Int):Int)))then (at? l v1).bind fun x1=>(bif eq x1 then (some v1).map fun a=> .inr (.inr a)else some (.inl (i64.wrap (v1+1))))else some (.inr (.inl ())))
def XG (n:Nat) (eq:α->Bool) (l:List α):Option Int:=
 dm (iter (abH eq l) n (0:Int)) fun ()=>some ((-1):Int)
theorem TH {n:Nat} {l:List α} {eq:α->Bool} (hl:l.length < 1099511627776) (hn:l.length < n):XG n eq l=some (wQ eq l):=by
 unfold XG;have:=iJ (l:=l) (step:=abH eq l) (fun i=>(i:Int)) eq () (fun i=>(i:Int)) (fun i hi=>?_) ?_ n hn
 ·rw[show ((0:Nat):Int)=0 from rfl]at this;rw[this];unfold wQ;cases jw eq l<;>rfl
 ·have hi':decide (((i:Nat):Int) < (l.length:Int))=true:=by simpa using hi
  simp only[abH,hi',cond_true,aN hi,bind_some];cases eq l[i]with
  |true=>rfl
  |false=>simp only[cond_false];rw[au (by omega)]
 ·simp[abH]
noncomputable def XH (b:Nat) (a0:List α):Option (List α):=
 (bif a0.isEmpty then (both (some ([]:(List α))) (bif bO ([]:List α).length 0 a0.length a0.length b then oO (([]:List α)++a0) fun r1=>bif eqL (sub r1 0 r1.length).length r1.length then some (sub r1 0 r1.length)else none else none))else bif bO ([]:List α).length 0 a0.length a0.length b then oO (([]:List α)++a0) fun r2=>bif eqL (sub r2 0 r2.length).length r2.length then some (sub r2 0 r2.length)else none else none)
theorem I4 {l:List α} {b:Nat} (h:l.length*b<=140737488355328) (h2:l.length<=maxLen):XH b l=some l:=by
 have:bO ([]:List α).length 0 l.length l.length b=true:=eH (a:=0) (by simpa using h) (by simpa using h2);unfold XH;cases l with
 |nil=>simp only[this,cond_true,fO,nil_append,bS,aC,List.isEmpty_nil];exact YG _
 |cons x l=>simp only[this,cond_true,fO,nil_append,bS,aC,List.isEmpty_cons,cond_false]
def VQ (z:α) (b:Nat) (a1:Int):Option (List α):=
 (bif (decide (a1 < (0:Int)))then none else (bif (decide ((i64.wrap (a1 - (i64.wrap (0 - 0))))>(0:Int)))then bif ER (i64.wrap (a1 - (i64.wrap (0 - 0)))) b then bif kI 0 0 ((i64.wrap (a1 - (i64.wrap (0 - 0)))).toNat)then bif eqL (sub (List.replicate (i64.wrap (a1 - (i64.wrap (0 - 0)))).toNat z) 0 0).length 0 then some (sub (List.replicate (i64.wrap (a1 - (i64.wrap (0 - 0)))).toNat z) 0 0)else none else none else none else some ([]:(List α))))
theorem VU (z:α) {b n:Nat} (h:n*b<=140737488355328) (hn:n < 1099511627776):VQ z b (n:Int)=some []:=by
 have w0:i64.wrap (0 - 0)=0:=by decide
 have w1:i64.wrap ((n:Int) - 0)=(n:Int):=by rw[Int.sub_zero];exact jv (by omega)
 have d:decide ((n:Int) < 0)=false:=by simp
 have m:ER (n:Int) b=true:=by
  have h9:n<=maxLen:=by simp only[maxLen];omega
  simp[ER,h,h9]
 have s:kI 0 0 (n:Int).toNat=true:=jB (by omega) (by omega) (by omega);have e:sub (List.replicate (n:Int).toNat z) 0 0=[]:=by simp[sub]
 unfold VQ;simp only[w0,w1,d,cond_false,m,cond_true,s,e];cases decide ((n:Int)>0)<;>rfl
def Q8 (a0:List (List α)):(Int×Int)->Option ((Int×Int) ⊕ Int)
 |(v1,v2)=>(bif (decide (v2 < ((a0.length:Int):Int)))then (at? a0 v2).bind fun x1=>(bif (decide ((i64.wrap (v1+(x1.length:Int))) < (0:Int)))then none else some (.inl ((i64.wrap (v1+(x1.length:Int))),(i64.wrap (v2+1)))))else some (.inr v1))
def Q9 (b:Nat) (a0:List (List α)):(Int×List α)->Option ((Int×List α) ⊕ List α)
 |(v3,v4)=>(bif (decide (v3 < ((a0.length:Int):Int)))then (at? a0 v3).bind fun x2=>bif bO v4.length v4.length x2.length x2.length b then oO (v4++x2) fun r2=>bif eqL r2.length r2.length then some (.inl ((i64.wrap (v3+1)),r2))else none else none else bif eqL v4.length v4.length then some (.inr v4)else none)
def TJ (z:α) (b:Nat) (n:Nat) (a0:List (List α)):Option (List α):=
 (iter (Q8 a0) n ((0:Int),(0:Int))).bind fun w1=>(VQ z b w1).bind fun r1=>bif eqL r1.length r1.length then (iter (Q9 b a0) n ((0:Int),r1)).bind fun w2=>bif eqL (sub w2 0 w2.length).length w2.length then some (sub w2 0 w2.length)else none else none
theorem Ra (z:α) {b n:Nat} {a0:List (List α)} (hf:a0.flatten.length < 1099511627776) (hb:a0.flatten.length*b<=140737488355328) (hl:a0.length < 1099511627776) (hn:a0.length < n):TJ z b n a0=some a0.flatten:=by
 have pre:∀ i,i<=a0.length->(a0.take i).flatten.length<=a0.flatten.length:=fun i _=>by
  conv=>rhs;rw[<- List.take_append_drop i a0,List.flatten_append,length_append]
  omega
 have step:∀ i (hi:i < a0.length),(a0.take (i+1)).flatten=(a0.take i).flatten++a0[i]:=fun i hi=>by rw[List.take_succ_eq_append_getElem hi,List.flatten_append];simp only[List.flatten_cons,List.flatten_nil,List.append_nil]
 have h1:iter (Q8 a0) n ((0:Int),(0:Int))=some (a0.flatten.length:Int):=by
  refine lu (fun i=>(((a0.take i).flatten.length:Int),((i:Nat):Int))) a0.length _ (fun i hi=>?_) ?_ n hn
  ·have hi':decide (((i:Nat):Int) < (a0.length:Int))=true:=(by simpa using hi);have e1:(((a0.take i).flatten.length:Int)+(a0[i].length:Int))=((a0.take (i+1)).flatten.length:Int):=(by rw[step i hi,length_append];omega);have h3:=pre (i+1) (by omega);have e2:i64.wrap ((a0.take (i+1)).flatten.length:Int)=((a0.take (i+1)).flatten.length:Int):=jv (by omega);have e3:decide (((a0.take (i+1)).flatten.length:Int) < 0)=false:=(by simp);simp only[Q8,hi',cond_true,aN hi,bind_some,e1,e2,e3,cond_false];rw[au (by omega)]
  ·simp[Q8]
 have h2:iter (Q9 b a0) n ((0:Int),([]:List α))=some a0.flatten:=by
  refine lu (fun i=>(((i:Nat):Int),(a0.take i).flatten)) a0.length _ (fun i hi=>?_) ?_ n hn
  ·have hi':decide (((i:Nat):Int) < (a0.length:Int))=true:=(by simpa using hi);have h3:=pre (i+1) (by omega);have e1:(a0.take i).flatten.length+a0[i].length=(a0.take (i+1)).flatten.length:=(by rw[step i hi,length_append]);have ap:bO (a0.take i).flatten.length (a0.take i).flatten.length a0[i].length a0[i].length b=true:=eH (by rw[e1];exact Nat.le_trans (Nat.mul_le_mul_right _ h3) hb) (by simp only[maxLen];omega);simp only[Q9,hi',cond_true,aN hi,bind_some,ap,fO,aC,<- step i hi];rw[au (by omega)]
  ·simp[Q9]
 unfold TJ;simp only[h1,bind_some,VU z hb hf,aC,cond_true,h2,bS]
def VW (ne:α->α->Bool) (a b:List α):Int->Option (Int ⊕ (Unit ⊕ Bool))
 |v1=>(bif (decide (v1 < ((a.length:Int):Int)))then (at? a v1).bind fun x1=>(at? b v1).bind fun x2=>(bif ne x1 x2 then (some false).map fun a=> .inr (.inr a)else some (.inl (i64.wrap (v1+1))))else some (.inr (.inl ())))
def Fp (n:Nat) (ne:α->α->Bool) (a b:List α):Option Bool:=
 (bif ((a.length:Int) != ((b.length:Int):Int))then some false else dm (iter (VW ne a b) n (0:Int)) fun ()=>some true)
theorem AB [DecidableEq α] {n:Nat} {ne:α->α->Bool} {a b:List α} (h:∀ x y,ne x y=!decide (x=y)) (hl:a.length < 1099511627776) (hn:a.length < n):Fp n ne a b=some (decide (a=b)):=by
 unfold Fp;by_cases hlen:a.length=b.length
 ·have h0:((a.length:Int) != (b.length:Int))=false:=by simp[hlen]
  rw[h0,cond_false];by_cases he:a=b
  ·subst he;have:=lu (step:=VW ne a a) (fun i=>((i:Nat):Int)) a.length (.inl ()) (fun i hi=>?_) ?_ n hn
   ·rw[show ((0:Nat):Int)=0 from rfl]at this;rw[this];simp
   ·have hi':decide (((i:Nat):Int) < (a.length:Int))=true:=(by simpa using hi);simp only[VW,hi',cond_true,aN hi,bind_some,h,decide_true,Bool.not_true,cond_false];rw[au (by omega)]
   ·simp[VW]
  ·
   have hp:∃ i,∃ (h1:i < a.length) (h2:i < b.length),a[i]≠b[i]∧∀ j (hj:j < i),a[j]'(by omega)=b[j]'(by omega):=by
    have hex:∃ i,∃ (h1:i < a.length) (h2:i < b.length),a[i]≠b[i]:=by
     refine Classical.byContradiction fun hc=>he ?_;refine List.ext_getElem hlen fun i h1 h2=>?_;exact Classical.byContradiction fun hne=>hc ⟨i,h1,h2,hne⟩
    have hmin:∀ k,(∃ i,i<=k∧∃ (h1:i < a.length) (h2:i < b.length),a[i]≠b[i])->∃ i,∃ (h1:i < a.length) (h2:i < b.length),a[i]≠b[i]∧∀ j (hj:j < i),a[j]'(by omega)=b[j]'(by omega):=by
     intro k
     induction k with
     |zero=>
      rintro⟨i,hi,h1,h2,h3⟩;have:i=0:=(by omega);subst this;exact⟨0,h1,h2,h3,fun j hj=>by omega⟩
     |succ k ih=>
      rintro⟨i,hi,h1,h2,h3⟩;by_cases hs:∃ i,i<=k∧∃ (h1:i < a.length) (h2:i < b.length),a[i]≠b[i]
      ·exact ih hs
      ·refine⟨i,h1,h2,h3,fun j hj=>?_⟩;exact Classical.byContradiction fun hne=>hs ⟨j,by omega,by omega,by omega,hne⟩
    obtain⟨i,h1,h2,h3⟩:=hex;exact hmin i ⟨i,Nat.le_refl i,h1,h2,h3⟩
   obtain⟨i,h1,h2,h3,h4⟩:=hp;have:=lu (step:=VW ne a b) (fun i=>((i:Nat):Int)) i (.inr false) (fun j hj=>?_) ?_ n (by omega)
   ·rw[show ((0:Nat):Int)=0 from rfl]at this;rw[this];simp[he]
   ·have hj':decide (((j:Nat):Int) < (a.length:Int))=true:=(by simp;omega);simp only[VW,hj',cond_true,aN (show j < a.length by omega),aN (show j < b.length by omega),bind_some,h,h4 j hj,decide_true,Bool.not_true,cond_false];rw[au (by omega)]
   ·have hi':decide (((i:Nat):Int) < (a.length:Int))=true:=(by simpa using h1);simp only[VW,hi',cond_true,aN h1,aN h2,bind_some,h,h3,decide_false,Bool.not_false,Option.map_some]
 ·have h0:((a.length:Int) != (b.length:Int))=true:=by simp;omega
  rw[h0,cond_true];have:a≠b:=fun e=>hlen (by rw[e]);simp[this]
def DJ (a0:List α) (φ:(α×Unit)->Option Bool):(Int×Int×List α)->Option ((Int×Int×List α) ⊕ (Int×List α))
 |(v1,v2,v3)=>(bif (decide (v2 < (((a0.length:Nat):Int):Int)))then (bif inb v2 a0.length then (at? v3 ((0:Nat)+v2:Int)).bind fun x1=>(φ (x1,())).bind fun r2=>(bif (!r2)then bif inb v1 a0.length then (at? v3 ((0:Nat)+v1:Int)).bind fun _=>some ((i64.wrap (v1+1)),(v3.set ((0:Nat)+v1:Int).toNat x1))else none else some (v1,v3))else none:Option (Int×(List α))).bind fun (v4,v5)=>some (.inl (v4,(i64.wrap (v2+1)),v5))else some (.inr (v1,v3)))
def Fq (n:Nat) (a0:List α) (φ:(α×Unit)->Option Bool):Option (Unit×List α):=
 bif eqL (sub a0 0 a0.length).length a0.length then (uO n (sub a0 0 a0.length) φ).bind fun r1=>(bif (r1==((-1):Int))then bif eqL a0.length a0.length then bif eqL (sub a0 0 a0.length).length a0.length then some ((),(sub a0 0 a0.length))else none else none else (iter (DJ a0 φ) n (r1,(i64.wrap (r1+1)),a0)).bind fun (w1,w2)=>bif kI w1 ((a0.length:Nat):Int) a0.length then bif kI 0 w1 a0.length then bif eqL ((w1:Int).toNat) ((w1:Int).toNat)then bif eqL (sub (w2.take (0+(w1:Int).toNat)) 0 ((w1:Int).toNat)).length ((w1:Int).toNat)then some ((),(sub (w2.take (0+(w1:Int).toNat)) 0 ((w1:Int).toNat)))else none else none else none else none)else none
theorem G7 {n:Nat} {l:List α} {φ:(α×Unit)->Option Bool} (p:α->Bool) (h:∀ x∈l,φ (x,())=some (p x)) (hl:l.length < 1099511627776) (hn:l.length < n):Fq n l φ=some ((),l.filter fun x=>!p x):=by
 unfold Fq;simp only[bS,aC,cond_true,jy p h hl hn,bind_some];rcases iZ p l with ⟨i,hi,h1,h2,h3⟩ |⟨h1,h2⟩
 ·have e1:wQ p l=(i:Int):=by simp[wQ,h1]
  have e2:(((i:Nat):Int)== -1)=false:=by simp<;>omega
  simp only[e1,e2,cond_false];rw[au (by omega)];have keep:∀ m,(l.take m).filter (fun x=>!p x)=(l.take m).filter (fun x=>!p x):=fun _=>rfl;have kl:∀ m,((l.take m).filter (fun x=>!p x)).length<=m:=fun m=>Nat.le_trans (List.length_filter_le _ _) (by rw[length_take];exact Nat.min_le_left _ _);have base:(l.take (i+1)).filter (fun x=>!p x)=l.take i:=by
   rw[List.take_succ_eq_append_getElem hi,filter_append];simp only[List.filter_cons,h2,Bool.not_true,Bool.false_eq_true,if_false,List.filter_nil,List.append_nil];rw[List.filter_eq_self];intro x hx;obtain⟨j,hj,rfl⟩:=List.getElem_of_mem hx;rw[length_take]at hj;rw[List.getElem_take,h3 j (by omega)];rfl
  have main:∀ k m (v:List α) (n:Nat),m+k=l.length->i < m->k < n->v.length=l.length->v.drop m=l.drop m->v.take ((l.take m).filter (fun x=>!p x)).length=(l.take m).filter (fun x=>!p x)->((l.take m).filter (fun x=>!p x)).length < m->
   ∃ w,iter (DJ l φ) n ((((l.take m).filter (fun x=>!p x)).length:Int),(m:Int),v)=some (((l.filter fun x=>!p x).length:Int),w)∧w.take (l.filter fun x=>!p x).length=(l.filter fun x=>!p x):=by
   intro k
   induction k with
   |zero=>
    intro m v n hm him hkn hv hd ht hlt;obtain⟨j,rfl⟩:∃ j,n=j+1:=⟨n - 1,by omega⟩;have hml:m=l.length:=(by omega);subst hml;rw[List.take_length]at ht ⊢;exact⟨v,aJ (by simp[DJ]),ht⟩
   |succ k ih=>
    intro m v n hm him hkn hv hd ht hlt;obtain⟨j,rfl⟩:∃ j,n=j+1:=⟨n - 1,by omega⟩;have hml:m < l.length:=(by omega);have d1:decide (((m:Nat):Int) < ((l.length:Nat):Int))=true:=(by simpa using hml);have g1:v[m]? =some l[m]:=by
     have:=congrArg (fun x:List α=>x[0]?) hd;simpa[List.getElem?_drop,hml]using this
    have hp:=h l[m] (getElem_mem hml);cases hpm:p l[m]with
    |true=>
     have ef:(l.take (m+1)).filter (fun x=>!p x)=(l.take m).filter (fun x=>!p x):=(by rw[List.take_succ_eq_append_getElem hml,filter_append];simp[hpm]);have st:DJ l φ ((((l.take m).filter (fun x=>!p x)).length:Int),(m:Int),v)=some (.inl ((((l.take (m+1)).filter (fun x=>!p x)).length:Int),((m+1:Nat):Int),v)):=by
      simp only[DJ,d1,cond_true,bR hml,yD,g1,bind_some,hp,hpm,Bool.not_true,cond_false,ef];rw[au (by omega)]
     rw[aV st];exact ih (m+1) v j (by omega) (by omega) (by omega) hv (by rw[<- List.drop_drop,<- List.drop_drop,hd]) (by rw[ef];exact ht) (by rw[ef];omega)
    |false=>
     have ef:(l.take (m+1)).filter (fun x=>!p x)=(l.take m).filter (fun x=>!p x)++[l[m]]:=(by rw[List.take_succ_eq_append_getElem hml,filter_append];simp[hpm]);generalize hK:(l.take m).filter (fun x=>!p x)=K at*;have g2:v[K.length]? =some v[K.length]:=(by rw[List.getElem?_eq_getElem (by omega)]);have st:DJ l φ ((K.length:Int),(m:Int),v)=some (.inl (((K++[l[m]]).length:Int),((m+1:Nat):Int),v.set K.length l[m])):=by
      have z:(((0:Nat):Int)+(K.length:Int)).toNat=K.length:=(by simp);simp only[DJ,d1,cond_true,bR hml,bR (show K.length < l.length by omega),yD,g1,g2,bind_some,hp,hpm,Bool.not_false,z];rw[au (by omega),au (by omega),length_append,length_singleton]
     rw[aV st];have:=ih (m+1) (v.set K.length l[m]) j (by omega) (by omega) (by omega) (by simp[hv]) (by
      rw[List.drop_set_of_lt (by omega),<- List.drop_drop,<- List.drop_drop,hd]) (by
      rw[ef,length_append,length_singleton,List.take_succ_eq_append_getElem (by rw[List.length_set];omega),List.getElem_set_self];congr 1;rw[List.take_set_of_le (Nat.le_refl _),ht]) (by rw[ef,length_append,length_singleton];omega)
     rw[ef]at this;exact this
  obtain⟨w,hw1,hw2⟩:=main (l.length - (i+1)) (i+1) l n (by omega) (by omega) (by omega) rfl rfl (by rw[base,length_take,Nat.min_eq_left (by omega)]) (by rw[base,length_take];omega);rw[base,length_take,Nat.min_eq_left (by omega)]at hw1;rw[hw1];have fl:(l.filter fun x=>!p x).length<=l.length:=List.length_filter_le _ _;have s1:kI ((l.filter fun x=>!p x).length:Int) ((l.length:Nat):Int) l.length=true:=jB (by omega) (by omega) (by omega);have s2:kI 0 ((l.filter fun x=>!p x).length:Int) l.length=true:=jB (by omega) (by omega) (by omega);simp only[bind_some,s1,s2,cond_true,Int.toNat_natCast,aC,Nat.zero_add,hw2,bS]
 ·have e1:wQ p l= -1:=by simp[wQ,h1]
  have e2:l.filter (fun x=>!p x)=l:=by
   rw[List.filter_eq_self];intro x hx;rw[h2 x hx];rfl
  simp[e1,e2]
end
theorem Dm (p:Nat->Bool) (a b:Nat):(∃ i,a<=i∧i < b∧p i=true∧∀ j,a<=j->j < i->p j=false)∨∀ j,a<=j->j < b->p j=false:=by
 by_cases hab:a<=b
 ·obtain⟨k,rfl⟩:∃ k,b=a+k:=⟨b - a,by omega⟩;clear hab
  induction k with
  |zero=>exact .inr fun j h1 h2=>by omega
  |succ k ih=>
   rcases ih with ⟨i,h1,h2,h3,h4⟩ |h
   ·exact .inl ⟨i,h1,by omega,h3,h4⟩
   ·cases hp:p (a+k)with
    |true=>exact .inl ⟨a+k,by omega,by omega,hp,fun j h1 h2=>h j h1 h2⟩
    |false=>
     refine .inr fun j h1 h2=>?_;by_cases e:j=a+k
     ·subst e;exact hp
     ·exact h j h1 (by omega)
 ·exact .inr fun j h1 h2=>by omega
section
variable {α:Type}
def Mi (ne:α->α->Bool) (a0:List α) (v1:Int):(Int×Int×List α)->Option ((Int×Int×List α) ⊕ (Int×List α))
 |(v2,v3,v4)=>(bif (decide (v3 < ((((a0.length - (v1:Int).toNat):Nat):Int):Int)))then (bif inb v3 (a0.length - (v1:Int).toNat)then (at? v4 (((0+(v1:Int).toNat):Nat)+v3:Int)).bind fun x3=>bif inb (i64.wrap (v3 - 1)) (a0.length - (v1:Int).toNat)then (at? v4 (((0+(v1:Int).toNat):Nat)+(i64.wrap (v3 - 1)):Int)).bind fun x4=>(bif ne x3 x4 then bif inb v3 (a0.length - (v1:Int).toNat)then (at? v4 (((0+(v1:Int).toNat):Nat)+v3:Int)).bind fun x5=>bif inb v2 a0.length then (at? v4 ((0:Nat)+v2:Int)).bind fun _=>some ((i64.wrap (v2+1)),(v4.set ((0:Nat)+v2:Int).toNat x5))else none else none else some (v2,v4))else none else none:Option (Int×(List α))).bind fun (v5,v6)=>some (.inl (v5,(i64.wrap (v3+1)),v6))else some (.inr (v2,v4)))
def AJ (eq ne:α->α->Bool) (n:Nat) (a0:List α):Int->Option (Int ⊕ (Unit ⊕ (Unit×List α)))
 |v1=>(bif (decide (v1 < (((a0.length:Nat):Int):Int)))then bif inb v1 a0.length then (at? a0 ((0:Nat)+v1:Int)).bind fun x1=>bif inb (i64.wrap (v1 - 1)) a0.length then (at? a0 ((0:Nat)+(i64.wrap (v1 - 1)):Int)).bind fun x2=>(bif eq x1 x2 then bif kI v1 ((a0.length:Nat):Int) a0.length then (iter (Mi ne a0 v1) n (v1,(1:Int),a0)).bind fun (w1,w2)=>bif kI w1 ((a0.length:Nat):Int) a0.length then bif kI 0 w1 a0.length then (bif eqL ((w1:Int).toNat) ((w1:Int).toNat)then bif eqL (sub (w2.take (0+(w1:Int).toNat)) 0 ((w1:Int).toNat)).length ((w1:Int).toNat)then some ((),(sub (w2.take (0+(w1:Int).toNat)) 0 ((w1:Int).toNat)))else none else none).map fun a=> .inr (.inr a)else none else none else none else some (.inl (i64.wrap (v1+1))))else none else none else some (.inr (.inl ())))
def Px (eq ne:α->α->Bool) (n:Nat) (a0:List α):Option (Unit×List α):=
 (bif (decide (((a0.length:Nat):Int) < (2:Int)))then bif eqL a0.length a0.length then bif eqL (sub a0 0 a0.length).length a0.length then some ((),(sub a0 0 a0.length))else none else none else dm (iter (AJ eq ne n a0) n (1:Int)) fun ()=>bif eqL a0.length a0.length then bif eqL (sub a0 0 a0.length).length a0.length then some ((),(sub a0 0 a0.length))else none else none)
def mH (ne:α->α->Bool) (s:α×List α) (x:α):α×List α:=(x,bif ne x s.1 then s.2++[x]else s.2)
def TK (ne:α->α->Bool):List α->List α
 |[]=>[]
 |x::xs=>x::(xs.foldl (mH ne) (x,[])).2
theorem Mj (ne:α->α->Bool) (xs:List α) (x:α) (K:List α):xs.foldl (mH ne) (x,K)=((xs.foldl (mH ne) (x,[])).1,K++(xs.foldl (mH ne) (x,[])).2):=by
 induction xs generalizing x K with
 |nil=>simp
 |cons y xs ih=>
  simp only[foldl_cons,mH];cases ne y x with
  |true=>simp only[cond_true,nil_append];rw[ih y (K++[y]),ih y [y]];simp
  |false=>simp only[cond_false];rw[ih y K]
theorem G8 (ne:α->α->Bool):∀ (xs:List α) (x:α),(∀ i (h:i+1 < (x::xs).length),ne ((x::xs)[i+1]) ((x::xs)[i])=true)->xs.foldl (mH ne) (x,[])=((x::xs).getLast (by simp),xs)
 |[],x,_=>rfl
 |y::xs,x,h=>by
  have h0:=h 0 (by simp);simp only[List.getElem_cons_succ,List.getElem_cons_zero]at h0;simp only[foldl_cons,mH,h0,cond_true,nil_append];rw[Mj,G8 ne xs y (fun i hi=>h (i+1) (by simp at hi ⊢;omega))];simp
theorem N9 {eq ne:α->α->Bool} (hen:∀ x y,eq x y=!ne x y) {n:Nat} {l:List α} (hl:l.length < 1099511627776) (hn:l.length < n):Px eq ne n l=some ((),TK ne l):=by
 unfold Px;by_cases h2:l.length < 2
 ·have d:decide (((l.length:Nat):Int) < 2)=true:=by simp;omega
  simp only[d,cond_true,aC,bS]
  match l,h2 with
  |[],_=>rfl
  |[x],_=>rfl
  |x::y::l,h2=>exact absurd h2 (by simp)
 ·have d:decide (((l.length:Nat):Int) < 2)=false:=by simp;omega
  simp only[d,cond_false,aC,cond_true,bS];obtain⟨x0,xs,rfl⟩:∃ x xs,l=x::xs:=by
   cases l with
   |nil=>simp at h2
   |cons x xs=>exact⟨x,xs,rfl⟩
  generalize hL:(x0::xs)=l at*;have step1:∀ (i:Nat) (hi:i < l.length) (h1:1<=i),eq (l[i]) (l[i - 1]'(by omega))=false->AJ eq ne n l (i:Int)=some (.inl ((i+1:Nat):Int)):=fun i hi h1 he=>by
   have d1:decide (((i:Nat):Int) < ((l.length:Nat):Int))=true:=(by simpa using hi);simp only[AJ,d1,cond_true,bR hi,cK hi,bind_some];rw[nV (by omega) (by omega)];simp only[bR (show i - 1 < l.length by omega),cond_true,cK (show i - 1 < l.length by omega),bind_some,he,cond_false];rw[au (by omega)]
  rcases Dm (fun i=>if h:i < l.length then eq (l[i]) (l[i - 1]'(by omega))else false) 1 l.length with ⟨i,h1,hi,hp,hq⟩ |hnone
  ·simp only[hi,dite_true]at hp;have hq':∀ j (hj1:1<=j) (hj:j < i),eq (l[j]'(by omega)) (l[j - 1]'(by omega))=false:=fun j hj1 hj=>by
    have:=hq j hj1 hj;simpa only[show j < l.length by omega,dite_true]using this
   have hK:∀ s:α×List α,((l.drop (i+1)).foldl (mH ne) s).2.length<=s.2.length+(l.length - (i+1)):=by
    have:∀ (ys:List α) (s:α×List α),(ys.foldl (mH ne) s).2.length<=s.2.length+ys.length:=by
     intro ys
     induction ys with
     |nil=>intro s;simp
     |cons y ys ih=>
      intro s;simp only[foldl_cons,length_cons];refine Nat.le_trans (ih _) ?_;simp only[mH];cases ne y s.1<;>simp<;>omega
    intro s;have:=this (l.drop (i+1)) s
    rwa [length_drop]at this
   have hin:iter (Mi ne l (i:Int)) n ((i:Int),(1:Int),l)=some (((i+((l.drop (i+1)).foldl (mH ne) (l[i],[])).2.length:Nat):Int),l.take i++((l.drop (i+1)).foldl (mH ne) (l[i],[])).2++l.drop (i+((l.drop (i+1)).foldl (mH ne) (l[i],[])).2.length)):=by
    have:=lK (l:=l.drop (i+1)) (step:=Mi ne l (i:Int)) (fun j (s:α×List α)=>(((i+s.2.length:Nat):Int),((j+1:Nat):Int),l.take i++s.2++l.drop (i+s.2.length))) (fun x s=>mH ne s x) (fun s=>(((i+s.2.length:Nat):Int),l.take i++s.2++l.drop (i+s.2.length)))
     (fun j s=>s.2.length<=j∧l[i+j]? =some s.1) (fun j hj s hs=>?_) (fun s hs=>?_) n (by rw[length_drop];omega) (l[i],[]) ⟨Nat.le_refl 0,by simp[hi]⟩
    ·simpa using this
    ·obtain⟨s1,s2⟩:=hs;rw[length_drop]at hj;have hx:(l.drop (i+1))[j]'(by rw[length_drop];omega)=l[i+1+j]'(by omega):=(by rw[List.getElem_drop]);have gv:∀ k,s.2.length<=k->(l.take i++s.2++l.drop (i+s.2.length))[i+k]? =l[i+k]? :=fun k hk=>by
      rw[List.getElem?_append_right (by simp[length_take];omega),List.getElem?_drop];congr 1;simp only[length_append,length_take];omega
     have tn:((i:Nat):Int).toNat=i:=(by simp);have d1:decide (((j+1:Nat):Int) < (((l.length - i:Nat)):Int))=true:=(by simp;omega);have a1:at? (l.take i++s.2++l.drop (i+s.2.length)) (((0+i:Nat):Int)+((j+1:Nat):Int))=some (l[i+1+j]'(by omega)):=by
      rw[show (((0+i:Nat):Int)+((j+1:Nat):Int))=((i+(j+1):Nat):Int)by omega,AA,gv (j+1) (by omega),show i+(j+1)=i+1+j by omega];exact List.getElem?_eq_getElem (by omega)
     have a2:at? (l.take i++s.2++l.drop (i+s.2.length)) (((0+i:Nat):Int)+((j:Nat):Int))=some s.1:=(by rw[show (((0+i:Nat):Int)+((j:Nat):Int))=((i+j:Nat):Int)by omega,AA,gv j s1,s2]);have wp:i64.wrap (((j+1:Nat):Int) - 1)=((j:Nat):Int):=(by rw[nV (by omega) (by omega)];rfl);refine⟨?_,?_,?_⟩
     ·simp only[Mi,tn,d1,cond_true,bR (show j+1 < l.length - i by omega),a1,bind_some,wp,bR (show j < l.length - i by omega),a2,hx,mH];cases hne:ne (l[i+1+j]'(by omega)) s.1 with
      |false=>simp only[cond_false,bind_some];rw[au (by omega)]
      |true=>
       have g2:at? (l.take i++s.2++l.drop (i+s.2.length)) (((0:Nat):Int)+((i+s.2.length:Nat):Int))=some (l[i+s.2.length]'(by omega)):=by
        rw[yD,gv s.2.length (Nat.le_refl _)];exact List.getElem?_eq_getElem (by omega)
       have z:(((0:Nat):Int)+((i+s.2.length:Nat):Int)).toNat=i+s.2.length:=(by omega);have st:(l.take i++s.2++l.drop (i+s.2.length)).set (i+s.2.length) (l[i+1+j]'(by omega))=l.take i++(s.2++[l[i+1+j]'(by omega)])++l.drop (i+(s.2++[l[i+1+j]'(by omega)]).length):=by
        rw[List.set_append_right _ _ (by simp[length_take];omega)];have e0:i+s.2.length - (l.take i++s.2).length=0:=(by simp[length_take];omega);rw[e0,List.drop_eq_getElem_cons (show i+s.2.length < l.length by omega)];simp only[List.set_cons_zero,length_append,length_singleton,List.append_assoc,List.singleton_append];rfl
       simp only[cond_true,bR (show i+s.2.length < l.length by omega),g2,bind_some,z,st];rw[au (by omega),au (by omega),length_append,length_singleton];rfl
     ·simp only[mH];cases ne _ s.1<;>simp<;>omega
     ·simp only[mH];rw[show i+(j+1)=i+1+j by omega,hx];exact List.getElem?_eq_getElem (by omega)
    ·obtain⟨s1,s2⟩:=hs;rw[length_drop]at s1 ⊢;have tn:((i:Nat):Int).toNat=i:=(by simp);have d1:decide (((l.length - (i+1)+1:Nat):Int) < (((l.length - i:Nat)):Int))=false:=(by simp;omega);simp only[Mi,tn,d1,cond_false]
   have hfin:AJ eq ne n l (i:Int)=some (.inr (.inr ((),TK ne l))):=by
    have d1:decide (((i:Nat):Int) < ((l.length:Nat):Int))=true:=(by simpa using hi);simp only[AJ,d1,cond_true,bR hi,cK hi,bind_some];rw[nV (by omega) (by omega)];simp only[bR (show i - 1 < l.length by omega),cond_true,cK (show i - 1 < l.length by omega),bind_some,hp];have s0:kI ((i:Nat):Int) ((l.length:Nat):Int) l.length=true:=jB (by omega) (by omega) (by omega);have hk:=hK (l[i],[]);simp only[List.length_nil,Nat.zero_add]at hk;have res:l.take i++((l.drop (i+1)).foldl (mH ne) (l[i],[])).2=TK ne l:=by
     have hd:ne (l[i]) (l[i - 1]'(by omega))=false:=by
      have:=hen (l[i]) (l[i - 1]'(by omega));rw[hp]at this;simpa using this.symm
     subst hL;obtain⟨m,rfl⟩:∃ m,i=m+1:=⟨i - 1,by omega⟩;have hm:m < xs.length:=(by simp at hi;omega);have e1:xs=xs.take m++xs[m]::xs.drop (m+1):=(by rw[<- List.drop_eq_getElem_cons hm,List.take_append_drop]);have e2:(xs.take m).foldl (mH ne) (x0,[])=((x0::xs.take m).getLast (by simp),xs.take m):=by
      refine G8 ne _ x0 fun k hk=>?_;simp only[length_cons,length_take]at hk;have h9:=hq' (k+1) (by omega) (by omega);rw[hen]at h9;have:ne ((x0::xs)[k+1]'(by simp;omega)) ((x0::xs)[k]'(by simp;omega))=true:=(by simpa using h9);have t:∀ q (hq:q < (x0::xs.take m).length),(x0::xs.take m)[q]=(x0::xs)[q]'(by simp[length_take]at hq ⊢;omega):=fun q hq=>by
       cases q with
       |zero=>rfl
       |succ q=>simp
      rw[t,t];exact this
     have lastE:(x0::xs.take m).getLast (by simp)=(x0::xs)[m+1 - 1]'(by simp;omega):=by
      rw[List.getLast_eq_getElem];simp only[length_cons,length_take,Nat.add_sub_cancel];have:min m xs.length=m:=Nat.min_eq_left (by omega);cases m with
      |zero=>simp
      |succ m=>simp[this]
     simp only[List.getElem_cons_succ,List.drop_succ_cons,List.take_succ_cons,List.cons_append,TK,List.cons.injEq,true_and]
     conv=>rhs;rw[e1,List.foldl_append,e2]
     simp only[foldl_cons,mH];rw[lastE];simp only[List.getElem_cons_succ]at hd;rw[hd,cond_false,Mj ne (List.drop (m+1) xs) xs[m] (List.take m xs)]
    have tl:(l.take i++((l.drop (i+1)).foldl (mH ne) (l[i],[])).2).length=i+((l.drop (i+1)).foldl (mH ne) (l[i],[])).2.length:=(by rw[length_append,length_take,Nat.min_eq_left (by omega)]);simp only[s0,cond_true,hin,bind_some];have s1:kI ((i+((l.drop (i+1)).foldl (mH ne) (l[i],[])).2.length:Nat):Int) ((l.length:Nat):Int) l.length=true:=jB (by omega) (by omega) (by omega);have s2:kI 0 ((i+((l.drop (i+1)).foldl (mH ne) (l[i],[])).2.length:Nat):Int) l.length=true:=jB (by omega) (by omega) (by omega);have tk:(l.take i++((l.drop (i+1)).foldl (mH ne) (l[i],[])).2++l.drop (i+((l.drop (i+1)).foldl (mH ne) (l[i],[])).2.length)).take (i+((l.drop (i+1)).foldl (mH ne) (l[i],[])).2.length)=l.take i++((l.drop (i+1)).foldl (mH ne) (l[i],[])).2:=(by rw[List.take_append_of_le_length (by rw[tl];exact Nat.le_refl _),<- tl,List.take_length]);simp only[s1,s2,cond_true,Int.toNat_natCast,aC,Nat.zero_add,tk];rw[<- tl,bS,aC,cond_true,res];rfl
   have:=lu (step:=AJ eq ne n l) (fun k=>((k+1:Nat):Int)) (i - 1) (.inr ((),TK ne l)) (fun k hk=>?_) ?_ n (by omega)
   ·rw[show ((0+1:Nat):Int)=1 from rfl]at this;rw[this];rfl
   ·exact step1 (k+1) (by omega) (by omega) (hq' (k+1) (by omega) (by omega))
   ·rw[show i - 1+1=i by omega];exact hfin
  ·have hnone':∀ j (hj1:1<=j) (hj:j < l.length),eq (l[j]) (l[j - 1]'(by omega))=false:=fun j hj1 hj=>by
    have:=hnone j hj1 hj;simpa only[hj,dite_true]using this
   have:=lu (step:=AJ eq ne n l) (fun k=>((k+1:Nat):Int)) (l.length - 1) (.inl ()) (fun k hk=>?_) ?_ n (by omega)
   ·rw[show ((0+1:Nat):Int)=1 from rfl]at this;rw[this];simp only[iH];subst hL;simp only[TK];rw[G8 ne xs x0 fun k hk=>?_];have h9:=hnone' (k+1) (by omega) hk;rw[hen]at h9;simp only[Nat.add_sub_cancel]at h9;simpa using h9
   ·exact step1 (k+1) (by omega) (by omega) (hnone' (k+1) (by omega) (by omega))
   ·rw[show l.length - 1+1=l.length by omega];simp[AJ]
end
theorem TM (l:List Int):TK (fun x y=>x != y) l=fI l:=by
 match l with
 |[]=>rfl
 |[x]=>rfl
 |x::y::l=>
  have ih:=TM (y::l);simp only[TK,foldl_cons,mH,fI]at ih ⊢;by_cases h:y=x
  ·subst h;simp only[bne_self_eq_false,cond_false,beq_self_eq_true,cond_true];exact ih
  ·have h1:(y != x)=true:=(by simp[h]);have h2:(x==y)=false:=(by simp[Ne.symm h]);simp only[h1,cond_true,h2,cond_false,nil_append];rw[Mj,<- ih];simp
section
variable {α R:Type}
def dH (C:α->α->Option R) (q:R->Bool) (a0:(List α)) (a1:Int):(Int×(List α))->Option ((Int×(List α)) ⊕ (List α))
 |(v3,v4)=>((bif (decide (v3>(a1:Int)))then bif inb v3 a0.length then (at? v4 ((0:Nat)+v3:Int)).bind fun x1=>bif inb (i64.wrap (v3 - 1)) a0.length then (at? v4 ((0:Nat)+(i64.wrap (v3 - 1)):Int)).bind fun x2=>(C x1 x2).bind fun r1=>some (q r1)else none else none else some false):Option (Bool)).bind fun v5=>(bif v5 then bif inb (i64.wrap (v3 - 1)) a0.length then (at? v4 ((0:Nat)+(i64.wrap (v3 - 1)):Int)).bind fun x3=>bif inb v3 a0.length then (at? v4 ((0:Nat)+v3:Int)).bind fun x4=>bif inb v3 a0.length then (at? v4 ((0:Nat)+v3:Int)).bind fun x5=>bif inb (i64.wrap (v3 - 1)) a0.length then (at? (v4.set ((0:Nat)+v3:Int).toNat x3) ((0:Nat)+(i64.wrap (v3 - 1)):Int)).bind fun x6=>some (.inl ((i64.wrap (v3 - 1)),((v4.set ((0:Nat)+v3:Int).toNat x3).set ((0:Nat)+(i64.wrap (v3 - 1)):Int).toNat x4)))else none else none else none else none else some (.inr v4))
def eF (C:α->α->Option R) (q:R->Bool) (n:Nat) (a0:(List α)) (a1:Int) (a2:Int):(Int×(List α))->Option ((Int×(List α)) ⊕ (List α))
 |(v1,v2)=>(bif (decide (v1 < (a2:Int)))then (iter (dH C q a0 a1) n (v1,v2)).bind fun w1=>some (.inl ((i64.wrap (v1+1)),w1))else some (.inr v2))
def jP (C:α->α->Option R) (q:R->Bool) (n:Nat) (a0:(List α)) (a1:Int) (a2:Int):Option (List α):=
 (iter (eF C q n a0 a1 a2) n ((i64.wrap (a1+1)),a0)).bind fun w2=>some w2
def bU (C:α->α->Option R) (q:R->Bool) (a0:(List α)) (a2:Int) (a3:Int):(Int×(List α))->Option ((Int×(List α)) ⊕ ((List α) ⊕ (List α)))
 |(v1,v2)=>(bif (decide ((i64.wrap ((i64.wrap (2*v1))+1))>=(a2:Int)))then some (.inr (.inl v2))else (((bif (decide ((i64.wrap ((i64.wrap ((i64.wrap (2*v1))+1))+1)) < (a2:Int)))then bif inb (i64.wrap (a3+(i64.wrap ((i64.wrap (2*v1))+1)))) a0.length then (at? v2 ((0:Nat)+(i64.wrap (a3+(i64.wrap ((i64.wrap (2*v1))+1)))):Int)).bind fun x1=>bif inb (i64.wrap ((i64.wrap (a3+(i64.wrap ((i64.wrap (2*v1))+1))))+1)) a0.length then (at? v2 ((0:Nat)+(i64.wrap ((i64.wrap (a3+(i64.wrap ((i64.wrap (2*v1))+1))))+1)):Int)).bind fun x2=>(C x1 x2).bind fun r1=>some (q r1)else none else none else some false):Option (Bool)).bind fun v3=>(bif v3 then some (i64.wrap ((i64.wrap ((i64.wrap (2*v1))+1))+1))else some (i64.wrap ((i64.wrap (2*v1))+1))):Option (Int)).bind fun v4=>bif inb (i64.wrap (a3+v1)) a0.length then (at? v2 ((0:Nat)+(i64.wrap (a3+v1)):Int)).bind fun x3=>bif inb (i64.wrap (a3+v4)) a0.length then (at? v2 ((0:Nat)+(i64.wrap (a3+v4)):Int)).bind fun x4=>(C x3 x4).bind fun r2=>(bif (!(q r2))then (some v2).map fun a=> .inr (.inr a)else bif inb (i64.wrap (a3+v4)) a0.length then (at? v2 ((0:Nat)+(i64.wrap (a3+v4)):Int)).bind fun x5=>bif inb (i64.wrap (a3+v1)) a0.length then (at? v2 ((0:Nat)+(i64.wrap (a3+v1)):Int)).bind fun x6=>bif inb (i64.wrap (a3+v1)) a0.length then (at? v2 ((0:Nat)+(i64.wrap (a3+v1)):Int)).bind fun x7=>bif inb (i64.wrap (a3+v4)) a0.length then (at? (v2.set ((0:Nat)+(i64.wrap (a3+v1)):Int).toNat x5) ((0:Nat)+(i64.wrap (a3+v4)):Int)).bind fun x8=>some (.inl (v4,((v2.set ((0:Nat)+(i64.wrap (a3+v1)):Int).toNat x5).set ((0:Nat)+(i64.wrap (a3+v4)):Int).toNat x6)))else none else none else none else none)else none else none)
def nX (C:α->α->Option R) (q:R->Bool) (n:Nat) (a0:(List α)) (a1:Int) (a2:Int) (a3:Int):Option (List α):=
 dm (iter (bU C q a0 a2 a3) n (a1,a0)) fun w1=>some w1
def mI (C:α->α->Option R) (q:R->Bool) (n:Nat) (a0:(List α)) (a1:Int) (a2:Int):(Int×(List α))->Option ((Int×(List α)) ⊕ (List α))
 |(v1,v2)=>(bif (decide (v1>=(0:Int)))then bif eqL a0.length v2.length then (nX C q n v2 v1 (i64.wrap (a2 - a1)) a1).bind fun r1=>some (.inl ((i64.wrap (v1 - 1)),r1))else none else some (.inr v2))
def mJ (C:α->α->Option R) (q:R->Bool) (n:Nat) (a0:(List α)) (a1:Int):(Int×(List α))->Option ((Int×(List α)) ⊕ (List α))
 |(v3,v4)=>(bif (decide (v3>=(0:Int)))then bif inb (i64.wrap (a1+v3)) a0.length then (at? v4 ((0:Nat)+(i64.wrap (a1+v3)):Int)).bind fun x1=>bif inb a1 a0.length then (at? v4 ((0:Nat)+a1:Int)).bind fun x2=>bif inb a1 a0.length then (at? v4 ((0:Nat)+a1:Int)).bind fun x3=>bif inb (i64.wrap (a1+v3)) a0.length then (at? (v4.set ((0:Nat)+a1:Int).toNat x1) ((0:Nat)+(i64.wrap (a1+v3)):Int)).bind fun x4=>bif eqL a0.length ((v4.set ((0:Nat)+a1:Int).toNat x1).set ((0:Nat)+(i64.wrap (a1+v3)):Int).toNat x2).length then (nX C q n ((v4.set ((0:Nat)+a1:Int).toNat x1).set ((0:Nat)+(i64.wrap (a1+v3)):Int).toNat x2) 0 v3 a1).bind fun r2=>some (.inl ((i64.wrap (v3 - 1)),r2))else none else none else none else none else none else some (.inr v4))
def wR (C:α->α->Option R) (q:R->Bool) (n:Nat) (a0:(List α)) (a1:Int) (a2:Int):Option (List α):=
 bif 2 != 0 then (iter (mI C q n a0 a1 a2) n ((i64.wrap (Int.tdiv (i64.wrap ((i64.wrap (a2 - a1)) - 1)) 2)),a0)).bind fun w1=>(iter (mJ C q n a0 a1) n ((i64.wrap ((i64.wrap (a2 - a1)) - 1)),w1)).bind fun w2=>some w2 else none
def gU (npt:Int->Option Int) (xsh:Int->Option (Int×Int)) (a0:(List α)) (a1:Int) (a2:Int) (r1:Int):(Int×(List α)×Int)->Option ((Int×(List α)×Int) ⊕ (List α))
 |(v1,v2,v3)=>bif 4 != 0 then (bif (decide (v1<=((i64.wrap ((i64.wrap (a1+(i64.wrap ((i64.wrap (Int.tdiv (i64.wrap (a2 - a1)) 4))*2))))+1)):Int)))then (xsh v3).bind fun r2=>((bif (decide ((i64.wrap (bits .and .u64 r2.1 (IntKind.u64.wrap (r1 - 1))))>=((i64.wrap (a2 - a1)):Int)))then some (i64.wrap ((i64.wrap (bits .and .u64 r2.1 (IntKind.u64.wrap (r1 - 1)))) - (i64.wrap (a2 - a1))))else some (i64.wrap (bits .and .u64 r2.1 (IntKind.u64.wrap (r1 - 1))))):Option (Int)).bind fun v4=>bif inb (i64.wrap (a1+v4)) a0.length then (at? v2 ((0:Nat)+(i64.wrap (a1+v4)):Int)).bind fun x1=>bif inb v1 a0.length then (at? v2 ((0:Nat)+v1:Int)).bind fun x2=>bif inb v1 a0.length then (at? v2 ((0:Nat)+v1:Int)).bind fun x3=>bif inb (i64.wrap (a1+v4)) a0.length then (at? (v2.set ((0:Nat)+v1:Int).toNat x1) ((0:Nat)+(i64.wrap (a1+v4)):Int)).bind fun x4=>some (.inl ((i64.wrap (v1+1)),((v2.set ((0:Nat)+v1:Int).toNat x1).set ((0:Nat)+(i64.wrap (a1+v4)):Int).toNat x2),r2.2))else none else none else none else none else some (.inr v2))else none
def iL (npt:Int->Option Int) (xsh:Int->Option (Int×Int)) (n:Nat) (a0:(List α)) (a1:Int) (a2:Int):Option (List α):=
 (bif (decide ((i64.wrap (a2 - a1))>=(8:Int)))then (npt (i64.wrap (a2 - a1))).bind fun r1=>bif 4 != 0 then (iter (gU npt xsh a0 a1 a2 r1) n ((i64.wrap ((i64.wrap (a1+(i64.wrap ((i64.wrap (Int.tdiv (i64.wrap (a2 - a1)) 4))*2)))) - 1)),a0,(IntKind.u64.wrap (i64.wrap (a2 - a1))))).bind fun w1=>some w1 else none else some a0)
def yG (C:α->α->Option R) (q:R->Bool) (a0:(List α)) (a1:Int) (a2:Int) (a3:Int):Option (Int×Int×Int):=
 (at? a0 a2).bind fun x1=>(at? a0 a1).bind fun x2=>(C x1 x2).bind fun r1=>(bif q r1 then some (a2,a1,(i64.wrap (a3+1)))else some (a1,a2,a3))
def uP (C:α->α->Option R) (q:R->Bool) (a0:(List α)) (a1:Int) (a2:Int) (a3:Int) (a4:Int):Option (Int×Int):=
 (yG C q a0 a1 a2 a4).bind fun r1=>(yG C q a0 r1.2.1 a3 r1.2.2).bind fun r2=>(yG C q a0 r1.1 r2.1 r2.2.2).bind fun r3=>some (r3.2.1,r3.2.2)
def bQ (C:α->α->Option R) (q:R->Bool) (a0:(List α)) (a1:Int) (a2:Int):Option (Int×Int):=
 (uP C q a0 (i64.wrap (a1 - 1)) a1 (i64.wrap (a1+1)) a2).bind fun r1=>some (r1.1,r1.2)
def mK (C:α->α->Option R) (q:R->Bool) (a0:(List α)) (a1:Int) (a2:Int):Option (Int×Int):=
 bif 4 != 0 then bif 4 != 0 then bif 4 != 0 then ((bif (decide ((i64.wrap (a2 - a1))>=(8:Int)))then ((bif (decide ((i64.wrap (a2 - a1))>=(50:Int)))then (bQ C q a0 (i64.wrap (a1+(i64.wrap ((i64.wrap (Int.tdiv (i64.wrap (a2 - a1)) 4))*1)))) 0).bind fun r1=>(bQ C q a0 (i64.wrap (a1+(i64.wrap ((i64.wrap (Int.tdiv (i64.wrap (a2 - a1)) 4))*2)))) r1.2).bind fun r2=>(bQ C q a0 (i64.wrap (a1+(i64.wrap ((i64.wrap (Int.tdiv (i64.wrap (a2 - a1)) 4))*3)))) r2.2).bind fun r3=>some (r1.1,r2.1,r3.1,r3.2)else some ((i64.wrap (a1+(i64.wrap ((i64.wrap (Int.tdiv (i64.wrap (a2 - a1)) 4))*1)))),(i64.wrap (a1+(i64.wrap ((i64.wrap (Int.tdiv (i64.wrap (a2 - a1)) 4))*2)))),(i64.wrap (a1+(i64.wrap ((i64.wrap (Int.tdiv (i64.wrap (a2 - a1)) 4))*3)))),(0:Int))):Option (Int×Int×Int×Int)).bind fun (v1,v2,v3,v4)=>(uP C q a0 v1 v2 v3 v4).bind fun r4=>some (r4.1,r4.2)else some ((i64.wrap (a1+(i64.wrap ((i64.wrap (Int.tdiv (i64.wrap (a2 - a1)) 4))*2)))),(0:Int))):Option (Int×Int)).bind fun (v5,v6)=>(bif (v6==(0:Int))then some (v5,(1:Int))else (bif (v6==(12:Int))then some (v5,(2:Int))else some (v5,(0:Int))))else none else none else none
def fE (a0:(List α)):(Int×Int×(List α))->Option ((Int×Int×(List α)) ⊕ (List α))
 |(v1,v2,v3)=>(bif (decide (v1 < (v2:Int)))then bif inb v2 a0.length then (at? v3 ((0:Nat)+v2:Int)).bind fun x1=>bif inb v1 a0.length then (at? v3 ((0:Nat)+v1:Int)).bind fun x2=>bif inb v1 a0.length then (at? v3 ((0:Nat)+v1:Int)).bind fun x3=>bif inb v2 a0.length then (at? (v3.set ((0:Nat)+v1:Int).toNat x1) ((0:Nat)+v2:Int)).bind fun x4=>some (.inl ((i64.wrap (v1+1)),(i64.wrap (v2 - 1)),((v3.set ((0:Nat)+v1:Int).toNat x1).set ((0:Nat)+v2:Int).toNat x2)))else none else none else none else none else some (.inr v3))
def jC (n:Nat) (a0:(List α)) (a1:Int) (a2:Int):Option (List α):=
 (iter (fE a0) n (a1,(i64.wrap (a2 - 1)),a0)).bind fun w1=>some w1
def bC (C:α->α->Option R) (q:R->Bool) (a0:(List α)) (a2:Int) (v3:(List α)):Int->Option (Int ⊕ Int)
 |v4=>((bif (decide (v4 < (a2:Int)))then bif inb v4 a0.length then (at? v3 ((0:Nat)+v4:Int)).bind fun x1=>bif inb (i64.wrap (v4 - 1)) a0.length then (at? v3 ((0:Nat)+(i64.wrap (v4 - 1)):Int)).bind fun x2=>(C x1 x2).bind fun r1=>some (!(q r1))else none else none else some false):Option (Bool)).bind fun v5=>(bif v5 then some (.inl (i64.wrap (v4+1)))else some (.inr v4))
def bD (C:α->α->Option R) (q:R->Bool) (a0:(List α)):(Int×(List α))->Option ((Int×(List α)) ⊕ (List α))
 |(v6,v7)=>(bif (decide (v6>=(1:Int)))then bif inb v6 a0.length then (at? v7 ((0:Nat)+v6:Int)).bind fun x7=>bif inb (i64.wrap (v6 - 1)) a0.length then (at? v7 ((0:Nat)+(i64.wrap (v6 - 1)):Int)).bind fun x8=>(C x7 x8).bind fun r2=>(bif (!(q r2))then some (.inr v7)else bif inb (i64.wrap (v6 - 1)) a0.length then (at? v7 ((0:Nat)+(i64.wrap (v6 - 1)):Int)).bind fun x9=>bif inb v6 a0.length then (at? v7 ((0:Nat)+v6:Int)).bind fun x10=>bif inb v6 a0.length then (at? v7 ((0:Nat)+v6:Int)).bind fun x11=>bif inb (i64.wrap (v6 - 1)) a0.length then (at? (v7.set ((0:Nat)+v6:Int).toNat x9) ((0:Nat)+(i64.wrap (v6 - 1)):Int)).bind fun x12=>some (.inl ((i64.wrap (v6 - 1)),((v7.set ((0:Nat)+v6:Int).toNat x9).set ((0:Nat)+(i64.wrap (v6 - 1)):Int).toNat x10)))else none else none else none else none)else none else none else some (.inr v7))
def aY (C:α->α->Option R) (q:R->Bool) (a0:(List α)) (a2:Int):(Int×(List α))->Option ((Int×(List α)) ⊕ (List α))
 |(v9,v10)=>(bif (decide (v9 < (a2:Int)))then bif inb v9 a0.length then (at? v10 ((0:Nat)+v9:Int)).bind fun x13=>bif inb (i64.wrap (v9 - 1)) a0.length then (at? v10 ((0:Nat)+(i64.wrap (v9 - 1)):Int)).bind fun x14=>(C x13 x14).bind fun r3=>(bif (!(q r3))then some (.inr v10)else bif inb (i64.wrap (v9 - 1)) a0.length then (at? v10 ((0:Nat)+(i64.wrap (v9 - 1)):Int)).bind fun x15=>bif inb v9 a0.length then (at? v10 ((0:Nat)+v9:Int)).bind fun x16=>bif inb v9 a0.length then (at? v10 ((0:Nat)+v9:Int)).bind fun x17=>bif inb (i64.wrap (v9 - 1)) a0.length then (at? (v10.set ((0:Nat)+v9:Int).toNat x15) ((0:Nat)+(i64.wrap (v9 - 1)):Int)).bind fun x18=>some (.inl ((i64.wrap (v9+1)),((v10.set ((0:Nat)+v9:Int).toNat x15).set ((0:Nat)+(i64.wrap (v9 - 1)):Int).toNat x16)))else none else none else none else none)else none else none else some (.inr v10))
def aZ (C:α->α->Option R) (q:R->Bool) (n:Nat) (a0:(List α)) (a1:Int) (a2:Int):(Int×Int×(List α))->Option ((Int×Int×(List α)) ⊕ ((List α) ⊕ (Bool×(List α))))
 |(v1,v2,v3)=>(bif (decide (v2 < (5:Int)))then dm ((iter (bC C q a0 a2 v3) n v1).bind fun w1=>(bif (w1==(a2:Int))then ((some (true,v3)).map fun a=> .inr (.inr a)).map .inr else (bif (decide ((i64.wrap (a2 - a1)) < (50:Int)))then ((some (false,v3)).map fun a=> .inr (.inr a)).map .inr else bif inb (i64.wrap (w1 - 1)) a0.length then (at? v3 ((0:Nat)+(i64.wrap (w1 - 1)):Int)).bind fun x3=>bif inb w1 a0.length then (at? v3 ((0:Nat)+w1:Int)).bind fun x4=>bif inb w1 a0.length then (at? v3 ((0:Nat)+w1:Int)).bind fun x5=>bif inb (i64.wrap (w1 - 1)) a0.length then (at? (v3.set ((0:Nat)+w1:Int).toNat x3) ((0:Nat)+(i64.wrap (w1 - 1)):Int)).bind fun x6=>((bif (decide ((i64.wrap (w1 - a1))>=(2:Int)))then (iter (bD C q a0) n ((i64.wrap (w1 - 1)),((v3.set ((0:Nat)+w1:Int).toNat x3).set ((0:Nat)+(i64.wrap (w1 - 1)):Int).toNat x4))).bind fun w2=>some w2 else some ((v3.set ((0:Nat)+w1:Int).toNat x3).set ((0:Nat)+(i64.wrap (w1 - 1)):Int).toNat x4)):Option ((List α))).bind fun v8=>(bif (decide ((i64.wrap (a2 - w1))>=(2:Int)))then (iter (aY C q a0 a2) n ((i64.wrap (w1+1)),v8)).bind fun w3=>some (.inl (w1,w3))else some (.inl (w1,v8)))else none else none else none else none)):Option ((Int×(List α)) ⊕ _)) fun (v11,v12)=>some (.inl (v11,(i64.wrap (v2+1)),v12))else some (.inr (.inl v3)))
def cu (C:α->α->Option R) (q:R->Bool) (n:Nat) (a0:(List α)) (a1:Int) (a2:Int):Option (Bool×(List α)):=
 dm (iter (aZ C q n a0 a1 a2) n ((i64.wrap (a1+1)),(0:Int),a0)) fun w4=>some (false,w4)
def ja (C:α->α->Option R) (q:R->Bool) (a0:(List α)) (a1:Int) (v2:Int) (v3:(List α)):Int->Option (Int ⊕ Int)
 |v4=>((bif (decide (v4<=(v2:Int)))then bif inb a1 a0.length then (at? v3 ((0:Nat)+a1:Int)).bind fun x5=>bif inb v4 a0.length then (at? v3 ((0:Nat)+v4:Int)).bind fun x6=>(C x5 x6).bind fun r1=>some (!(q r1))else none else none else some false):Option (Bool)).bind fun v5=>(bif v5 then some (.inl (i64.wrap (v4+1)))else some (.inr v4))
def jb (C:α->α->Option R) (q:R->Bool) (a0:(List α)) (a1:Int) (v3:(List α)) (w1:Int):Int->Option (Int ⊕ Int)
 |v6=>((bif (decide (w1<=(v6:Int)))then bif inb a1 a0.length then (at? v3 ((0:Nat)+a1:Int)).bind fun x7=>bif inb v6 a0.length then (at? v3 ((0:Nat)+v6:Int)).bind fun x8=>(C x7 x8).bind fun r2=>some (q r2)else none else none else some false):Option (Bool)).bind fun v7=>(bif v7 then some (.inl (i64.wrap (v6 - 1)))else some (.inr v6))
def dS (C:α->α->Option R) (q:R->Bool) (n:Nat) (a0:(List α)) (a1:Int):(Int×Int×(List α))->Option ((Int×Int×(List α)) ⊕ (Int×(List α)))
 |(v1,v2,v3)=>(iter (ja C q a0 a1 v2 v3) n v1).bind fun w1=>(iter (jb C q a0 a1 v3 w1) n v2).bind fun w2=>(bif (decide (w1>(w2:Int)))then some (.inr (w1,v3))else bif inb w2 a0.length then (at? v3 ((0:Nat)+w2:Int)).bind fun x9=>bif inb w1 a0.length then (at? v3 ((0:Nat)+w1:Int)).bind fun x10=>bif inb w1 a0.length then (at? v3 ((0:Nat)+w1:Int)).bind fun x11=>bif inb w2 a0.length then (at? (v3.set ((0:Nat)+w1:Int).toNat x9) ((0:Nat)+w2:Int)).bind fun x12=>some (.inl ((i64.wrap (w1+1)),(i64.wrap (w2 - 1)),((v3.set ((0:Nat)+w1:Int).toNat x9).set ((0:Nat)+w2:Int).toNat x10)))else none else none else none else none)
def gq (C:α->α->Option R) (q:R->Bool) (n:Nat) (a0:(List α)) (a1:Int) (a2:Int) (a3:Int):Option (Int×(List α)):=
 bif inb a3 a0.length then (at? a0 ((0:Nat)+a3:Int)).bind fun x1=>bif inb a1 a0.length then (at? a0 ((0:Nat)+a1:Int)).bind fun x2=>bif inb a1 a0.length then (at? a0 ((0:Nat)+a1:Int)).bind fun x3=>bif inb a3 a0.length then (at? (a0.set ((0:Nat)+a1:Int).toNat x1) ((0:Nat)+a3:Int)).bind fun x4=>(iter (dS C q n a0 a1) n ((i64.wrap (a1+1)),(i64.wrap (a2 - 1)),((a0.set ((0:Nat)+a1:Int).toNat x1).set ((0:Nat)+a3:Int).toNat x2))).bind fun (w3,w4)=>some (w3,w4)else none else none else none else none
def kT (C:α->α->Option R) (q:R->Bool) (a0:(List α)) (a1:Int) (a2:Int) (a3:Int) (x1:α) (x2:α):Int->Option (Int ⊕ Int)
 |v1=>((bif (decide (v1<=((i64.wrap (a2 - 1)):Int)))then bif inb v1 a0.length then (at? ((a0.set ((0:Nat)+a1:Int).toNat x1).set ((0:Nat)+a3:Int).toNat x2) ((0:Nat)+v1:Int)).bind fun x5=>bif inb a1 a0.length then (at? ((a0.set ((0:Nat)+a1:Int).toNat x1).set ((0:Nat)+a3:Int).toNat x2) ((0:Nat)+a1:Int)).bind fun x6=>(C x5 x6).bind fun r1=>some (q r1)else none else none else some false):Option (Bool)).bind fun v2=>(bif v2 then some (.inl (i64.wrap (v1+1)))else some (.inr v1))
def kU (C:α->α->Option R) (q:R->Bool) (a0:(List α)) (a1:Int) (a3:Int) (x1:α) (x2:α) (w1:Int):Int->Option (Int ⊕ Int)
 |v3=>((bif (decide (w1<=(v3:Int)))then bif inb v3 a0.length then (at? ((a0.set ((0:Nat)+a1:Int).toNat x1).set ((0:Nat)+a3:Int).toNat x2) ((0:Nat)+v3:Int)).bind fun x7=>bif inb a1 a0.length then (at? ((a0.set ((0:Nat)+a1:Int).toNat x1).set ((0:Nat)+a3:Int).toNat x2) ((0:Nat)+a1:Int)).bind fun x8=>(C x7 x8).bind fun r2=>some (!(q r2))else none else none else some false):Option (Bool)).bind fun v4=>(bif v4 then some (.inl (i64.wrap (v3 - 1)))else some (.inr v3))
def iw (C:α->α->Option R) (q:R->Bool) (a0:(List α)) (a1:Int) (v6:Int) (v7:(List α)):Int->Option (Int ⊕ Int)
 |v8=>((bif (decide (v8<=(v6:Int)))then bif inb v8 a0.length then (at? v7 ((0:Nat)+v8:Int)).bind fun x17=>bif inb a1 a0.length then (at? v7 ((0:Nat)+a1:Int)).bind fun x18=>(C x17 x18).bind fun r3=>some (q r3)else none else none else some false):Option (Bool)).bind fun v9=>(bif v9 then some (.inl (i64.wrap (v8+1)))else some (.inr v8))
def iy (C:α->α->Option R) (q:R->Bool) (a0:(List α)) (a1:Int) (v7:(List α)) (w3:Int):Int->Option (Int ⊕ Int)
 |v10=>((bif (decide (w3<=(v10:Int)))then bif inb v10 a0.length then (at? v7 ((0:Nat)+v10:Int)).bind fun x19=>bif inb a1 a0.length then (at? v7 ((0:Nat)+a1:Int)).bind fun x20=>(C x19 x20).bind fun r4=>some (!(q r4))else none else none else some false):Option (Bool)).bind fun v11=>(bif v11 then some (.inl (i64.wrap (v10 - 1)))else some (.inr v10))
def jD (C:α->α->Option R) (q:R->Bool) (n:Nat) (a0:(List α)) (a1:Int):(Int×Int×(List α))->Option ((Int×Int×(List α)) ⊕ (Int×(List α)))
 |(v5,v6,v7)=>(iter (iw C q a0 a1 v6 v7) n v5).bind fun w3=>(iter (iy C q a0 a1 v7 w3) n v6).bind fun w4=>(bif (decide (w3>(w4:Int)))then some (.inr (w4,v7))else bif inb w4 a0.length then (at? v7 ((0:Nat)+w4:Int)).bind fun x21=>bif inb w3 a0.length then (at? v7 ((0:Nat)+w3:Int)).bind fun x22=>bif inb w3 a0.length then (at? v7 ((0:Nat)+w3:Int)).bind fun x23=>bif inb w4 a0.length then (at? (v7.set ((0:Nat)+w3:Int).toNat x21) ((0:Nat)+w4:Int)).bind fun x24=>some (.inl ((i64.wrap (w3+1)),(i64.wrap (w4 - 1)),((v7.set ((0:Nat)+w3:Int).toNat x21).set ((0:Nat)+w4:Int).toNat x22)))else none else none else none else none)
def nY (C:α->α->Option R) (q:R->Bool) (n:Nat) (a0:(List α)) (a1:Int) (a2:Int) (a3:Int):Option (Int×Bool×(List α)):=
 bif inb a3 a0.length then (at? a0 ((0:Nat)+a3:Int)).bind fun x1=>bif inb a1 a0.length then (at? a0 ((0:Nat)+a1:Int)).bind fun x2=>bif inb a1 a0.length then (at? a0 ((0:Nat)+a1:Int)).bind fun x3=>bif inb a3 a0.length then (at? (a0.set ((0:Nat)+a1:Int).toNat x1) ((0:Nat)+a3:Int)).bind fun x4=>(iter (kT C q a0 a1 a2 a3 x1 x2) n (i64.wrap (a1+1))).bind fun w1=>(iter (kU C q a0 a1 a3 x1 x2 w1) n (i64.wrap (a2 - 1))).bind fun w2=>(bif (decide (w1>(w2:Int)))then bif inb a1 a0.length then (at? ((a0.set ((0:Nat)+a1:Int).toNat x1).set ((0:Nat)+a3:Int).toNat x2) ((0:Nat)+a1:Int)).bind fun x9=>bif inb w2 a0.length then (at? ((a0.set ((0:Nat)+a1:Int).toNat x1).set ((0:Nat)+a3:Int).toNat x2) ((0:Nat)+w2:Int)).bind fun x10=>bif inb w2 a0.length then (at? ((a0.set ((0:Nat)+a1:Int).toNat x1).set ((0:Nat)+a3:Int).toNat x2) ((0:Nat)+w2:Int)).bind fun x11=>bif inb a1 a0.length then (at? (((a0.set ((0:Nat)+a1:Int).toNat x1).set ((0:Nat)+a3:Int).toNat x2).set ((0:Nat)+w2:Int).toNat x9) ((0:Nat)+a1:Int)).bind fun x12=>some (w2,true,((((a0.set ((0:Nat)+a1:Int).toNat x1).set ((0:Nat)+a3:Int).toNat x2).set ((0:Nat)+w2:Int).toNat x9).set ((0:Nat)+a1:Int).toNat x10))else none else none else none else none else bif inb w2 a0.length then (at? ((a0.set ((0:Nat)+a1:Int).toNat x1).set ((0:Nat)+a3:Int).toNat x2) ((0:Nat)+w2:Int)).bind fun x13=>bif inb w1 a0.length then (at? ((a0.set ((0:Nat)+a1:Int).toNat x1).set ((0:Nat)+a3:Int).toNat x2) ((0:Nat)+w1:Int)).bind fun x14=>bif inb w1 a0.length then (at? ((a0.set ((0:Nat)+a1:Int).toNat x1).set ((0:Nat)+a3:Int).toNat x2) ((0:Nat)+w1:Int)).bind fun x15=>bif inb w2 a0.length then (at? (((a0.set ((0:Nat)+a1:Int).toNat x1).set ((0:Nat)+a3:Int).toNat x2).set ((0:Nat)+w1:Int).toNat x13) ((0:Nat)+w2:Int)).bind fun x16=>(iter (jD C q n a0 a1) n ((i64.wrap (w1+1)),(i64.wrap (w2 - 1)),((((a0.set ((0:Nat)+a1:Int).toNat x1).set ((0:Nat)+a3:Int).toNat x2).set ((0:Nat)+w1:Int).toNat x13).set ((0:Nat)+w2:Int).toNat x14))).bind fun (w5,w6)=>bif inb a1 a0.length then (at? w6 ((0:Nat)+a1:Int)).bind fun x25=>bif inb w5 a0.length then (at? w6 ((0:Nat)+w5:Int)).bind fun x26=>bif inb w5 a0.length then (at? w6 ((0:Nat)+w5:Int)).bind fun x27=>bif inb a1 a0.length then (at? (w6.set ((0:Nat)+w5:Int).toNat x25) ((0:Nat)+a1:Int)).bind fun x28=>some (w5,false,((w6.set ((0:Nat)+w5:Int).toNat x25).set ((0:Nat)+a1:Int).toNat x26))else none else none else none else none else none else none else none else none)else none else none else none else none
def lY (C:α->α->Option R) (q:R->Bool) (npt:Int->Option Int) (xsh:Int->Option (Int×Int)) (n:Nat) (rc:((List α))->(Int)->(Int)->(Int)->Option (List α)) (a0:(List α)):(Int×Int×Int×Bool×Bool×(List α))->Option ((Int×Int×Int×Bool×Bool×(List α)) ⊕ (Unit ⊕ (List α)))
 |(v1,v2,v3,v4,v5,v6)=>(bif (decide ((i64.wrap (v2 - v1))<=(12:Int)))then bif eqL a0.length v6.length then (jP C q n v6 v1 v2).bind fun r1=>(some r1).map fun a=> .inr (.inr a)else none else (bif (v3==(0:Int))then bif eqL a0.length v6.length then (wR C q n v6 v1 v2).bind fun r2=>(some r2).map fun a=> .inr (.inr a)else none else ((bif (!v4)then bif eqL a0.length v6.length then (iL npt xsh n v6 v1 v2).bind fun r3=>some ((i64.wrap (v3 - 1)),r3)else none else some (v3,v6)):Option (Int×(List α))).bind fun (v7,v8)=>bif eqL (sub v8 0 a0.length).length a0.length then (mK C q (sub v8 0 a0.length) v1 v2).bind fun r4=>((bif (r4.2==(2:Int))then bif eqL a0.length v8.length then (jC n v8 v1 v2).bind fun r5=>some ((i64.wrap ((i64.wrap (v2 - 1)) - (i64.wrap (r4.1 - v1)))),(1:Int),r5)else none else some (r4.1,r4.2,v8)):Option (Int×Int×(List α))).bind fun (v9,v10,v11)=>dm (((bif v4 then (bif v5 then some (v10==(1:Int))else some false)else some false):Option (Bool)).bind fun v12=>(bif v12 then bif eqL a0.length v11.length then (cu C q n v11 v1 v2).bind fun r6=>(bif r6.1 then ((some r6.2).map fun a=> .inr (.inr a)).map .inr else some (.inl r6.2))else none else some (.inl v11))) fun (v13:(List α))=>((bif (decide (v1>(0:Int)))then bif inb (i64.wrap (v1 - 1)) a0.length then (at? v13 ((0:Nat)+(i64.wrap (v1 - 1)):Int)).bind fun x1=>bif inb v9 a0.length then (at? v13 ((0:Nat)+v9:Int)).bind fun x2=>(C x1 x2).bind fun r7=>some (!(q r7))else none else none else some false):Option (Bool)).bind fun v14=>(bif v14 then bif eqL a0.length v13.length then (gq C q n v13 v1 v2 v9).bind fun r8=>some (.inl (r8.1,v2,v7,v4,v5,r8.2))else none else bif eqL a0.length v13.length then (nY C q n v13 v1 v2 v9).bind fun r9=>bif 8 != 0 then (bif (decide ((i64.wrap (r9.1 - v1)) < ((i64.wrap (v2 - r9.1)):Int)))then bif eqL a0.length r9.2.2.length then (rc r9.2.2 v1 r9.1 v7).bind fun r10=>some (.inl ((i64.wrap (r9.1+1)),v2,v7,(decide ((i64.wrap (r9.1 - v1))>=((i64.wrap (Int.tdiv (i64.wrap (v2 - v1)) 8)):Int))),r9.2.1,r10))else none else bif eqL a0.length r9.2.2.length then (rc r9.2.2 (i64.wrap (r9.1+1)) v2 v7).bind fun r11=>some (.inl (v1,r9.1,v7,(decide ((i64.wrap (v2 - r9.1))>=((i64.wrap (Int.tdiv (i64.wrap (v2 - v1)) 8)):Int))),r9.2.1,r11))else none)else none else none)else none))
def jQ (C:α->α->Option R) (q:R->Bool) (npt:Int->Option Int) (xsh:Int->Option (Int×Int)) (n:Nat) (rc:((List α))->(Int)->(Int)->(Int)->Option (List α)) (a0:(List α)) (a1:Int) (a2:Int) (a3:Int):Option (List α):=
 dm (iter (lY C q npt xsh n rc a0) n (a1,a2,a3,true,true,a0)) fun ()=>none
def iA (C:α->α->Option R) (q:R->Bool) (npt:Int->Option Int) (xsh:Int->Option (Int×Int)) (n:Nat):Nat->((List α))->(Int)->(Int)->(Int)->Option (List α)
 | 0=>fun _ _ _ _=>none
 |m+1=>jQ C q npt xsh n (iA C q npt xsh n m)
end
open Go.RowKit Go.Sort
section
variable {α R:Type} [Inhabited α]
theorem bW {d:Array α} {i:Nat} (h:i < d.size):at? d.toList (((0:Nat):Int)+(i:Int))=some d[i]! :=by rw[yD,Array.getElem?_toList,Array.getElem?_eq_getElem h,getElem!_pos d i h]
theorem ace {d:Array α} {i:Nat} (h:i < d.size):at? d.toList (i:Int)=some d[i]! :=by rw[AA,Array.getElem?_toList,Array.getElem?_eq_getElem h,getElem!_pos d i h]
omit [Inhabited α]in
theorem yH (d:Array α) (i:Nat) (x:α):d.toList.set (((0:Nat):Int)+(i:Int)).toNat x=(d.setIfInBounds i x).toList:=by rw[show (((0:Nat):Int)+(i:Int)).toNat=i by omega,Array.toList_setIfInBounds]
theorem AL {d:Array α} {i k:Nat} {x:α} (h:i < d.size):at? (d.setIfInBounds k x).toList (((0:Nat):Int)+(i:Int))=some (d.setIfInBounds k x)[i]! :=bW (by simpa using h)
theorem AO (d:Array α) (i j:Nat):((d.setIfInBounds i d[j]!).setIfInBounds j d[i]!).toList=(swp d i j).toList:=rfl
theorem w1 {i:Nat} (h0:0 < i) (h:i<=9223372036854775807):i64.wrap ((i:Int) - 1)=((i - 1:Nat):Int):=nV h0 h
theorem G9 {i j:Nat} (h:i+j<=9223372036854775807):i64.wrap ((i:Int)+(j:Int))=((i+j:Nat):Int):=by rw[dV (by omega) (by omega)];omega
theorem AP {i j:Nat} (h0:j<=i) (h:i<=9223372036854775807):i64.wrap ((i:Int) - (j:Int))=((i - j:Nat):Int):=by rw[dV (by omega) (by omega)];omega
theorem fU {i n:Nat} (h:i < n):inb (i:Int) n=true:=by simp[h]
theorem Mk {a b:Nat} (h:a=b):eqL a b=true:=by simp[eqL,h]
variable {C:α->α->Option R} {q:R->Bool} {f:α->α->R} {lt:α->α->Bool}
theorem kV (a:Nat):∀ (j:Nat) (d:Array α),(insInner lt a j d).size=d.size
 | 0,d=>rfl
 |j+1,d=>by
  simp only[insInner];split
  ·rw[kV a j,size_swp]
  ·rfl
theorem Py (hC:∀ x y,C x y=some (f x y)) (hq:∀ x y,q (f x y)=lt x y) (a0:List α) (a:Nat):∀ (j:Nat) (d:Array α) (n:Nat),a0.length=d.size->d.size < 4611686018427387904->j < d.size->j < n->
 iter (dH C q a0 (a:Int)) n ((j:Int),d.toList)=some (insInner lt a j d).toList
 | 0,d,n,h0,hs,hj,hn=>by
  obtain⟨n,rfl⟩:∃ m,n=m+1:=⟨n - 1,by omega⟩;refine aJ ?_;have c:decide (((0:Nat):Int)>(a:Int))=false:=by simp
  simp only[dH,c,cond_false,bind_some,insInner]
 |j+1,d,n,h0,hs,hj,hn=>by
  obtain⟨n,rfl⟩:∃ m,n=m+1:=⟨n - 1,by omega⟩;have e:i64.wrap (((j+1:Nat):Int) - 1)=((j:Nat):Int):=by rw[w1 (by omega) (by omega)];rfl
  have hj2:j < d.size:=by omega
  have i1:inb (((j+1:Nat)):Int) a0.length=true:=fU (by omega);have i2:inb ((j:Nat):Int) a0.length=true:=fU (by omega);by_cases c:j+1>a
  ·have c1:decide (((j+1:Nat):Int)>(a:Int))=true:=(by simp;omega);cases hl:lt d[j+1]! d[j]! with
   |true=>
    have s:dH C q a0 (a:Int) (((j+1:Nat):Int),d.toList)=some (.inl (((j:Nat):Int),(swp d (j+1) j).toList)):=(by simp only[dH,c1,cond_true,i1,bW hj,bind_some,e,i2,bW hj2,hC,hq,hl,yH,AL hj2,AO]);rw[aV s,Py hC hq a0 a j (swp d (j+1) j) n (by rw[size_swp];exact h0) (by rw[size_swp];exact hs) (by rw[size_swp];exact hj2) (by omega)];simp[insInner,c,hl]
   |false=>
    refine (aJ (o:=d.toList) ?_).trans ?_
    ·simp only[dH,c1,cond_true,i1,bW hj,bind_some,e,i2,bW hj2,hC,hq,hl,cond_false]
    ·simp[insInner,hl]
  ·have c1:decide (((j+1:Nat):Int)>(a:Int))=false:=(by simp;omega);refine (aJ (o:=d.toList) ?_).trans ?_
   ·simp only[dH,c1,cond_false,bind_some]
   ·simp[insInner,c]
theorem YN (hC:∀ x y,C x y=some (f x y)) (hq:∀ x y,q (f x y)=lt x y) (a0:List α) (a b:Nat) {n:Nat}:∀ (m i:Nat) (d:Array α) (k:Nat),b - i<=m->a0.length=d.size->d.size < 4611686018427387904->b<=d.size->d.size < n->m < k->
 iter (eF C q n a0 (a:Int) (b:Int)) k ((i:Int),d.toList)=some (insOuter lt a b i d).toList:=by
 intro m
 induction m with
 |zero=>
  intro i d k hm h0 hs hb hn hk;obtain⟨k,rfl⟩:∃ m,k=m+1:=⟨k - 1,by omega⟩;have c:¬ i < b:=by omega
  have c1:decide (((i:Nat):Int) < (b:Int))=false:=by simp;omega
  rw[insOuter,if_neg c];exact aJ (by simp only[eF,c1,cond_false])
 |succ m ih=>
  intro i d k hm h0 hs hb hn hk;obtain⟨k,rfl⟩:∃ m,k=m+1:=⟨k - 1,by omega⟩;by_cases c:i < b
  ·have c1:decide (((i:Nat):Int) < (b:Int))=true:=(by simpa using c);have s:eF C q n a0 (a:Int) (b:Int) ((i:Int),d.toList)=some (.inl (((i+1:Nat):Int),(insInner lt a i d).toList)):=by
    simp only[eF,c1,cond_true,Py hC hq a0 a i d n h0 hs (by omega) (by omega),bind_some];rw[au (by omega)]
   rw[aV s,ih (i+1) _ k (by omega) (by rw[kV];exact h0) (by rw[kV];exact hs) (by rw[kV];exact hb) (by rw[kV];exact hn) (by omega)]
   conv=>rhs;rw[insOuter,if_pos c]
  ·have c1:decide (((i:Nat):Int) < (b:Int))=false:=(by simp;omega);rw[insOuter,if_neg c];exact aJ (by simp only[eF,c1,cond_false])
theorem Fs (hC:∀ x y,C x y=some (f x y)) (hq:∀ x y,q (f x y)=lt x y) {d:Array α} {a b n:Nat} (hs:d.size < 4611686018427387904) (hb:b<=d.size) (ha:a<=b) (hn:d.size < n):
 jP C q n d.toList (a:Int) (b:Int)=some (insertionSort lt d a b).toList:=by
 unfold jP insertionSort;rw[au (by omega),YN hC hq d.toList a b b (a+1) d n (by omega) (by simp) hs hb hn (by omega)];rfl
theorem size_siftDown (hi first:Nat):∀ (m root:Nat) (d:Array α),hi - root<=m->(siftDown lt hi first root d).size=d.size:=by
 intro m
 induction m with
 |zero=>
  intro root d hm;rw[siftDown,dif_pos (by omega)]
 |succ m ih=>
  intro root d hm;rw[siftDown];split
  ·rfl
  ·split
   ·split
    ·rfl
    ·split
     ·rw[ih _ _ (by omega),size_swp]
     ·rfl
   ·split
    ·rfl
    ·rw[ih _ _ (by omega),size_swp]
theorem VX (hC:∀ x y,C x y=some (f x y)) (hq:∀ x y,q (f x y)=lt x y) (a0:List α) (hi first:Nat):∀ (m root:Nat) (d:Array α) (k:Nat),hi - root<=m->a0.length=d.size->d.size < 1152921504606846976->first+hi<=d.size->root<=d.size->m < k->
 ∃ r:List α ⊕ List α,iter (bU C q a0 (hi:Int) (first:Int)) k ((root:Int),d.toList)=some r∧(r= .inl (siftDown lt hi first root d).toList∨r= .inr (siftDown lt hi first root d).toList):=by
 intro m
 induction m with
 |zero=>
  intro root d k hm h0 hs hb hr hk;obtain⟨k,rfl⟩:∃ m,k=m+1:=⟨k - 1,by omega⟩;have e1:i64.wrap (2*(root:Int))=((2*root:Nat):Int):=by rw[dV (by omega) (by omega)];omega
  have e2:i64.wrap (((2*root:Nat):Int)+1)=((2*root+1:Nat):Int):=au (by omega);have c:decide (((2*root+1:Nat):Int)>=(hi:Int))=true:=by simp;omega
  refine⟨.inl d.toList,aJ ?_,.inl ?_⟩
  ·simp only[bU,e1,e2,c,cond_true]
  ·rw[siftDown,dif_pos (by omega)]
 |succ m ih=>
  intro root d k hm h0 hs hb hr hk;obtain⟨k,rfl⟩:∃ m,k=m+1:=⟨k - 1,by omega⟩;have e1:i64.wrap (2*(root:Int))=((2*root:Nat):Int):=by rw[dV (by omega) (by omega)];omega
  have e2:i64.wrap (((2*root:Nat):Int)+1)=((2*root+1:Nat):Int):=au (by omega);by_cases hc:2*root+1>=hi
  ·have c:decide (((2*root+1:Nat):Int)>=(hi:Int))=true:=(by simp;omega);refine⟨.inl d.toList,aJ ?_,.inl ?_⟩
   ·simp only[bU,e1,e2,c,cond_true]
   ·rw[siftDown,dif_pos hc]
  ·have c:decide (((2*root+1:Nat):Int)>=(hi:Int))=false:=(by simp;omega);have e3:i64.wrap (((2*root+1:Nat):Int)+1)=((2*root+2:Nat):Int):=au (by omega);have e4:i64.wrap ((first:Int)+((2*root+1:Nat):Int))=((first+(2*root+1):Nat):Int):=G9 (by omega);have e5:i64.wrap (((first+(2*root+1):Nat):Int)+1)=((first+(2*root+1)+1:Nat):Int):=au (by omega);have e6:i64.wrap ((first:Int)+((2*root+2:Nat):Int))=((first+(2*root+2):Nat):Int):=G9 (by omega);have e7:i64.wrap ((first:Int)+(root:Int))=((first+root:Nat):Int):=G9 (by omega);have hr0:first+root < d.size:=by omega
   have hr1:first+(2*root+1) < d.size:=by omega
   have i0:inb ((first+root:Nat):Int) a0.length=true:=fU (by omega);have i1:inb ((first+(2*root+1):Nat):Int) a0.length=true:=fU (by omega);by_cases h2:2*root+2 < hi
   ·have hr2:first+(2*root+2) < d.size:=by omega
    have hr3:first+(2*root+1)+1 < d.size:=by omega
    have i2:inb ((first+(2*root+2):Nat):Int) a0.length=true:=fU (by omega);have i3:inb ((first+(2*root+1)+1:Nat):Int) a0.length=true:=fU (by omega);have c2:decide (((2*root+2:Nat):Int) < (hi:Int))=true:=(by simp;omega);have h2':decide (2*root+1+1 < hi)=true:=(by simpa using h2);cases hl:lt d[first+(2*root+1)]! d[first+(2*root+1)+1]! with
    |true=>
     cases hl2:lt d[first+root]! d[first+(2*root+2)]! with
     |false=>
      refine⟨.inr d.toList,aJ ?_,.inr ?_⟩
      ·simp only[bU,e1,e2,c,cond_false,e3,c2,cond_true,e4,i1,bW hr1,bind_some,e5,i3,bW hr3,hC,hq,hl,e6,i2,e7,i0,bW hr0,bW hr2,hl2,Bool.not_false,Option.map_some]
      ·rw[siftDown,dif_neg hc,if_pos (by rw[h2',hl];rfl),if_pos (by rw[hl2];rfl)]
     |true=>
      have s:bU C q a0 (hi:Int) (first:Int) ((root:Int),d.toList)=some (.inl (((2*root+2:Nat):Int),(swp d (first+root) (first+(2*root+2))).toList)):=(by simp only[bU,e1,e2,c,cond_false,e3,c2,cond_true,e4,i1,bW hr1,bind_some,e5,i3,bW hr3,hC,hq,hl,e6,i2,e7,i0,bW hr0,bW hr2,hl2,Bool.not_true,yH,AL hr2,AO]);obtain⟨r,g1,g2⟩:=ih (2*root+2) (swp d (first+root) (first+(2*root+2))) k (by omega) (by rw[size_swp];exact h0) (by rw[size_swp];exact hs) (by rw[size_swp];exact hb) (by rw[size_swp];omega) (by omega);refine⟨r,by rw[aV s];exact g1,?_⟩;rw[siftDown,dif_neg hc,if_pos (by rw[h2',hl];rfl),if_neg (by rw[hl2];simp),dif_pos h2];exact g2
    |false=>
     cases hl2:lt d[first+root]! d[first+(2*root+1)]! with
     |false=>
      refine⟨.inr d.toList,aJ ?_,.inr ?_⟩
      ·simp only[bU,e1,e2,c,cond_false,e3,c2,cond_true,e4,i1,bW hr1,bind_some,e5,i3,bW hr3,hC,hq,hl,e7,i0,bW hr0,hl2,Bool.not_false,Option.map_some]
      ·rw[siftDown,dif_neg hc,if_neg (by rw[hl];simp),if_pos (by rw[hl2];rfl)]
     |true=>
      have s:bU C q a0 (hi:Int) (first:Int) ((root:Int),d.toList)=some (.inl (((2*root+1:Nat):Int),(swp d (first+root) (first+(2*root+1))).toList)):=(by simp only[bU,e1,e2,c,cond_false,e3,c2,cond_true,e4,i1,bW hr1,bind_some,e5,i3,bW hr3,hC,hq,hl,e7,i0,bW hr0,hl2,Bool.not_true,yH,AL hr1,AO]);obtain⟨r,g1,g2⟩:=ih (2*root+1) (swp d (first+root) (first+(2*root+1))) k (by omega) (by rw[size_swp];exact h0) (by rw[size_swp];exact hs) (by rw[size_swp];exact hb) (by rw[size_swp];omega) (by omega);refine⟨r,by rw[aV s];exact g1,?_⟩;rw[siftDown,dif_neg hc,if_neg (by rw[hl];simp),if_neg (by rw[hl2];simp)];exact g2
   ·have c2:decide (((2*root+2:Nat):Int) < (hi:Int))=false:=(by simp;omega);have h2':decide (2*root+1+1 < hi)=false:=(by simp;omega);cases hl2:lt d[first+root]! d[first+(2*root+1)]! with
    |false=>
     refine⟨.inr d.toList,aJ ?_,.inr ?_⟩
     ·simp only[bU,e1,e2,c,cond_false,e3,c2,cond_true,e4,i1,bW hr1,bind_some,hC,hq,e7,i0,bW hr0,hl2,Bool.not_false,Option.map_some]
     ·rw[siftDown,dif_neg hc,if_neg (by rw[h2'];simp),if_pos (by rw[hl2];rfl)]
    |true=>
     have s:bU C q a0 (hi:Int) (first:Int) ((root:Int),d.toList)=some (.inl (((2*root+1:Nat):Int),(swp d (first+root) (first+(2*root+1))).toList)):=(by simp only[bU,e1,e2,c,cond_false,e3,c2,cond_true,e4,i1,bW hr1,bind_some,hC,hq,e7,i0,bW hr0,hl2,Bool.not_true,yH,AL hr1,AO]);obtain⟨r,g1,g2⟩:=ih (2*root+1) (swp d (first+root) (first+(2*root+1))) k (by omega) (by rw[size_swp];exact h0) (by rw[size_swp];exact hs) (by rw[size_swp];exact hb) (by rw[size_swp];omega) (by omega);refine⟨r,by rw[aV s];exact g1,?_⟩;rw[siftDown,dif_neg hc,if_neg (by rw[h2'];simp),if_neg (by rw[hl2];simp)];exact g2
theorem Fu (hC:∀ x y,C x y=some (f x y)) (hq:∀ x y,q (f x y)=lt x y) {d:Array α} {hi first root n:Nat} (hs:d.size < 1152921504606846976) (hb:first+hi<=d.size) (hr:root<=d.size) (hn:d.size < n):
 nX C q n d.toList (root:Int) (hi:Int) (first:Int)=some (siftDown lt hi first root d).toList:=by
 obtain⟨r,h1,h2⟩:=VX hC hq d.toList hi first hi root d n (by omega) (by simp) hs hb hr (by omega)
 unfold nX;rw[h1];rcases h2 with h2 |h2<;>rw[h2]<;>rfl
theorem AQ (hi first:Nat):∀ (k:Nat) (d:Array α),(heapBuild lt hi first k d).size=d.size
 | 0,d=>rfl
 |k+1,d=>by rw[heapBuild,AQ hi first k,size_siftDown hi first hi k d (by omega)]
theorem VY (hC:∀ x y,C x y=some (f x y)) (hq:∀ x y,q (f x y)=lt x y) (a0:List α) (a b:Nat) {n:Nat} (hab:a<=b):∀ (i:Nat) (d:Array α) (k:Nat),a0.length=d.size->d.size < 1152921504606846976->b<=d.size->i<=d.size->d.size < n->i < k->
 iter (mI C q n a0 (a:Int) (b:Int)) k ((i:Int) - 1,d.toList)=some (heapBuild lt (b - a) a i d).toList:=by
 intro i
 induction i with
 |zero=>
  intro d k h0 hs hb hi hn hk;obtain⟨k,rfl⟩:∃ m,k=m+1:=⟨k - 1,by omega⟩;exact aJ (by simp[mI,heapBuild])
 |succ i ih=>
  intro d k h0 hs hb hi hn hk;obtain⟨k,rfl⟩:∃ m,k=m+1:=⟨k - 1,by omega⟩;have e:(((i+1:Nat):Int) - 1)=((i:Nat):Int):=by omega
  have c:decide (((i:Nat):Int)>=0)=true:=by simp
  have z:=size_siftDown (lt:=lt) (b - a) a (b - a) i d (by omega);have s:mI C q n a0 (a:Int) (b:Int) (((i:Nat):Int),d.toList)=some (.inl (((i:Nat):Int) - 1,(siftDown lt (b - a) a i d).toList)):=by
   simp only[mI,c,cond_true];rw[Mk (by simpa using h0),AP hab (by omega),Fu hC hq hs (by omega) (by omega) hn];simp only[cond_true,bind_some];rw[dV (by omega) (by omega)]
  rw[e,aV s,ih _ k (by rw[z];exact h0) (by rw[z];exact hs) (by rw[z];exact hb) (by rw[z];omega) (by rw[z];exact hn) (by omega)];rfl
theorem VZ (hC:∀ x y,C x y=some (f x y)) (hq:∀ x y,q (f x y)=lt x y) (a0:List α) (a:Nat) {n:Nat}:∀ (i:Nat) (d:Array α) (k:Nat),a0.length=d.size->d.size < 1152921504606846976->a+i<=d.size->d.size < n->i < k->
 iter (mJ C q n a0 (a:Int)) k ((i:Int) - 1,d.toList)=some (heapPop lt a i d).toList:=by
 intro i
 induction i with
 |zero=>
  intro d k h0 hs hb hn hk;obtain⟨k,rfl⟩:∃ m,k=m+1:=⟨k - 1,by omega⟩;exact aJ (by simp[mJ,heapPop])
 |succ i ih=>
  intro d k h0 hs hb hn hk;obtain⟨k,rfl⟩:∃ m,k=m+1:=⟨k - 1,by omega⟩;have e:(((i+1:Nat):Int) - 1)=((i:Nat):Int):=by omega
  have c:decide (((i:Nat):Int)>=0)=true:=by simp
  have hai:a+i < d.size:=by omega
  have ha:a < d.size:=by omega
  have i1:inb ((a+i:Nat):Int) a0.length=true:=fU (by omega);have i2:inb ((a:Nat):Int) a0.length=true:=fU (by omega);have e1:i64.wrap ((a:Int)+((i:Nat):Int))=((a+i:Nat):Int):=G9 (by omega);have z:=size_siftDown (lt:=lt) i a i 0 (swp d a (a+i)) (by omega);have q1:nX C q n (swp d a (a+i)).toList 0 ((i:Nat):Int) ((a:Nat):Int)=some (siftDown lt i a 0 (swp d a (a+i))).toList:=Fu (root:=0) hC hq (by rw[size_swp];exact hs) (by rw[size_swp];omega) (by omega) (by rw[size_swp];exact hn);have s:mJ C q n a0 (a:Int) (((i:Nat):Int),d.toList)=some (.inl (((i:Nat):Int) - 1,(siftDown lt i a 0 (swp d a (a+i))).toList)):=by
   simp only[mJ,c,cond_true,e1,i1,bW hai,bind_some,i2,bW ha,yH,AL hai,AO];rw[Mk (by rw[h0,Array.length_toList,size_swp]),q1];simp only[cond_true,bind_some];rw[dV (by omega) (by omega)]
  rw[size_swp]at z;rw[e,aV s,ih _ k (by rw[z];exact h0) (by rw[z];exact hs) (by rw[z];omega) (by rw[z];exact hn) (by omega)];rfl
theorem Rb (hC:∀ x y,C x y=some (f x y)) (hq:∀ x y,q (f x y)=lt x y) {d:Array α} {a b n:Nat} (hs:d.size < 1152921504606846976) (hb:b<=d.size) (hab:a < b) (hn:d.size < n):
 wR C q n d.toList (a:Int) (b:Int)=some (heapSort lt d a b).toList:=by
 unfold wR heapSort;have e1:i64.wrap ((b:Int) - (a:Int))=((b - a:Nat):Int):=AP (by omega) (by omega);have e2:i64.wrap (((b - a:Nat):Int) - 1)=((b - a - 1:Nat):Int):=w1 (by omega) (by omega);have e3:i64.wrap (Int.tdiv ((b - a - 1:Nat):Int) 2)=(((b - a - 1)/2+1:Nat):Int) - 1:=by rw[show Int.tdiv ((b - a - 1:Nat):Int) 2=(((b - a - 1)/2:Nat):Int)by rw[Int.tdiv_eq_ediv_of_nonneg (by omega)];omega,jv (by omega)];omega
 have c:(2 != 0)=true:=rfl;have z:=AQ (lt:=lt) (b - a) a ((b - a - 1)/2+1) d;rw[e1,e2,e3,VY hC hq d.toList a b (by omega) _ d n (by simp) hs hb (by omega) hn (by omega)];simp only[bind_some];rw[show ((b - a - 1:Nat):Int)=((b - a:Nat):Int) - 1 by omega,VZ hC hq d.toList a (b - a) _ n (by rw[z];simp) (by rw[z];exact hs) (by rw[z];omega) (by rw[z];exact hn) (by omega)];rfl
theorem YO (a0:List α):∀ (m i j:Nat) (d:Array α) (k:Nat),j - i<=m->a0.length=d.size->d.size < 1152921504606846976->j < d.size->m < k->
 iter (fE a0) k ((i:Int),(j:Int),d.toList)=some (reverseLoop i j d).toList:=by
 intro m
 induction m with
 |zero=>
  intro i j d k hm h0 hs hj hk;obtain⟨k,rfl⟩:∃ m,k=m+1:=⟨k - 1,by omega⟩;have c:decide (((i:Nat):Int) < ((j:Nat):Int))=false:=by simp;omega
  rw[reverseLoop,if_neg (by omega)];exact aJ (by simp only[fE,c,cond_false])
 |succ m ih=>
  intro i j d k hm h0 hs hj hk;obtain⟨k,rfl⟩:∃ m,k=m+1:=⟨k - 1,by omega⟩;by_cases hij:i < j
  ·have c:decide (((i:Nat):Int) < ((j:Nat):Int))=true:=(by simpa using hij);have hi:i < d.size:=(by omega);have i1:inb ((i:Nat):Int) a0.length=true:=fU (by omega);have i2:inb ((j:Nat):Int) a0.length=true:=fU (by omega);have s:fE a0 ((i:Int),(j:Int),d.toList)=some (.inl (((i+1:Nat):Int),((j - 1:Nat):Int),(swp d i j).toList)):=by
    simp only[fE,c,cond_true,i2,bW hj,bind_some,i1,bW hi,yH,AL hj,AO];rw[au (by omega),w1 (by omega) (by omega)]
   rw[aV s,ih _ _ _ k (by omega) (by rw[size_swp];exact h0) (by rw[size_swp];exact hs) (by rw[size_swp];omega) (by omega)]
   conv=>rhs;rw[reverseLoop,if_pos hij]
  ·have c:decide (((i:Nat):Int) < ((j:Nat):Int))=false:=(by simp;omega);rw[reverseLoop,if_neg hij];exact aJ (by simp only[fE,c,cond_false])
theorem He {d:Array α} {a b n:Nat} (hs:d.size < 1152921504606846976) (hb:b<=d.size) (hab:a < b) (hn:d.size < n):
 jC n d.toList (a:Int) (b:Int)=some (reverseRange d a b).toList:=by
 unfold jC reverseRange;rw[w1 (by omega) (by omega),YO d.toList b a (b - 1) d n (by omega) (by simp) hs (by omega) (by omega)];rfl
end
theorem lZ {x:Nat} (h:x < 18446744073709551616):IntKind.u64.wrap (x:Int)=(x:Int):=by
 simp only[IntKind.wrap,IntKind.bits,IntKind.signed,Bool.false_and,Bool.false_eq_true,if_false];omega
theorem Ml {x y:Nat} (hx:x < 18446744073709551616) (hy:y < 18446744073709551616):bits .xor .u64 (x:Int) (y:Int)=((x ^^^ y:Nat):Int):=by
 have h:x ^^^ y < 2 ^ 64:=Nat.xor_lt_two_pow (by omega) (by omega);show IntKind.u64.wrap (((BitVec.ofInt 64 (x:Int) ^^^ BitVec.ofInt 64 (y:Int)).toNat:Nat):Int)=_;rw[BitVec.toNat_xor,BitVec.toNat_ofInt,BitVec.toNat_ofInt];have e1:((x:Int)%(2 ^ 64:Nat)).toNat=x:=by omega
 have e2:((y:Int)%(2 ^ 64:Nat)).toNat=y:=by omega
 rw[e1,e2,lZ (by omega)]
theorem aav {x y:Nat} (hx:x < 18446744073709551616) (hy:y < 18446744073709551616):bits .and .u64 (x:Int) (y:Int)=((x &&& y:Nat):Int):=by
 have h:x &&& y<=x:=Nat.and_le_left;show IntKind.u64.wrap (((BitVec.ofInt 64 (x:Int) &&& BitVec.ofInt 64 (y:Int)).toNat:Nat):Int)=_;rw[BitVec.toNat_and,BitVec.toNat_ofInt,BitVec.toNat_ofInt];have e1:((x:Int)%(2 ^ 64:Nat)).toNat=x:=by omega
 have e2:((y:Int)%(2 ^ 64:Nat)).toNat=y:=by omega
 rw[e1,e2,lZ (by omega)]
section
variable {α R:Type} [Inhabited α]
variable {C:α->α->Option R} {q:R->Bool} {f:α->α->R} {lt:α->α->Bool}
theorem DK (hC:∀ x y,C x y=some (f x y)) (hq:∀ x y,q (f x y)=lt x y) {d:Array α} {a b s:Nat} (ha:a < d.size) (hb:b < d.size) (hs:s < 1099511627776):
 yG C q d.toList (a:Int) (b:Int) (s:Int)=some (((order2 lt d a b s).1:Int),((order2 lt d a b s).2.1:Int),((order2 lt d a b s).2.2:Int)):=by
 unfold yG order2;simp only[ace hb,ace ha,bind_some,hC,hq];cases lt d[b]! d[a]! with
 |true=>simp only[cond_true,if_true];rw[au (by omega)]
 |false=>simp
theorem DL (hC:∀ x y,C x y=some (f x y)) (hq:∀ x y,q (f x y)=lt x y) {d:Array α} {a b c s:Nat} (ha:a < d.size) (hb:b < d.size) (hc:c < d.size) (hs:s < 1099511627770):
 uP C q d.toList (a:Int) (b:Int) (c:Int) (s:Int)=some (((median lt d a b c s).1:Int),((median lt d a b c s).2:Int)):=by
 unfold uP median;have m1:=order2_mem lt d a b s;have c1:=order2_count (lt:=lt) d a b s;rw[DK hC hq ha hb (by omega),bind_some];have r1:(order2 lt d a b s).1 < d.size:=by omega
 have r2:(order2 lt d a b s).2.1 < d.size:=by omega
 have m2:=order2_mem lt d (order2 lt d a b s).2.1 c (order2 lt d a b s).2.2;have c2:=order2_count (lt:=lt) d (order2 lt d a b s).2.1 c (order2 lt d a b s).2.2;simp only[DK hC hq r2 hc (show (order2 lt d a b s).2.2 < 1099511627776 by omega),bind_some];have r3:(order2 lt d (order2 lt d a b s).2.1 c (order2 lt d a b s).2.2).1 < d.size:=by omega
 simp only[DK hC hq r1 r3 (show (order2 lt d (order2 lt d a b s).2.1 c (order2 lt d a b s).2.2).2.2 < 1099511627776 by omega),bind_some]
theorem lM (hC:∀ x y,C x y=some (f x y)) (hq:∀ x y,q (f x y)=lt x y) {d:Array α} {a s:Nat} (ha:0 < a) (hb:a+1 < d.size) (hs:s < 1099511627770) (hsz:d.size < 1152921504606846976):
 bQ C q d.toList (a:Int) (s:Int)=some (((medianAdjacent lt d a s).1:Int),((medianAdjacent lt d a s).2:Int)):=by
 unfold bQ medianAdjacent;rw[w1 ha (by omega),au (by omega),DL hC hq (by omega) (by omega) hb hs];rfl
def I5:Hint->Int
 | .unknown=>0
 | .increasing=>1
 | .decreasing=>2
theorem Fv (a b:Nat):Int.tdiv (a:Int) (b:Int)=((a/b:Nat):Int):=by rw[Int.tdiv_eq_ediv_of_nonneg (by omega)];rfl
theorem aaw (hC:∀ x y,C x y=some (f x y)) (hq:∀ x y,q (f x y)=lt x y) {d:Array α} {i j k:Nat} (hi:0 < i) (hi2:i+1 < d.size) (hj:0 < j) (hj2:j+1 < d.size) (hk:0 < k) (hk2:k+1 < d.size) (hsz:d.size < 1152921504606846976):
 ((bQ C q d.toList (i:Int) 0).bind fun r1=>(bQ C q d.toList (j:Int) r1.2).bind fun r2=>(bQ C q d.toList (k:Int) r2.2).bind fun r3=>some (r1.1,r2.1,r3.1,r3.2))=
  some (((medianAdjacent lt d i 0).1:Int),((medianAdjacent lt d j (medianAdjacent lt d i 0).2).1:Int),((medianAdjacent lt d k (medianAdjacent lt d j (medianAdjacent lt d i 0).2).2).1:Int),((medianAdjacent lt d k (medianAdjacent lt d j (medianAdjacent lt d i 0).2).2).2:Int))∧
 uP C q d.toList ((medianAdjacent lt d i 0).1:Int) ((medianAdjacent lt d j (medianAdjacent lt d i 0).2).1:Int) ((medianAdjacent lt d k (medianAdjacent lt d j (medianAdjacent lt d i 0).2).2).1:Int) ((medianAdjacent lt d k (medianAdjacent lt d j (medianAdjacent lt d i 0).2).2).2:Int)=
  some (((median lt d (medianAdjacent lt d i 0).1 (medianAdjacent lt d j (medianAdjacent lt d i 0).2).1 (medianAdjacent lt d k (medianAdjacent lt d j (medianAdjacent lt d i 0).2).2).1 (medianAdjacent lt d k (medianAdjacent lt d j (medianAdjacent lt d i 0).2).2).2).1:Int),((median lt d (medianAdjacent lt d i 0).1 (medianAdjacent lt d j (medianAdjacent lt d i 0).2).1 (medianAdjacent lt d k (medianAdjacent lt d j (medianAdjacent lt d i 0).2).2).1 (medianAdjacent lt d k (medianAdjacent lt d j (medianAdjacent lt d i 0).2).2).2).2:Int)):=by
 have n1:=medianAdjacent_mem lt d i 0;have k1:=medianAdjacent_count (lt:=lt) d i 0;have g1:bQ C q d.toList (i:Int) 0=_:=lM (s:=0) hC hq hi hi2 (by omega) hsz;generalize medianAdjacent lt d i 0=M1 at*;have n2:=medianAdjacent_mem lt d j M1.2;have k2:=medianAdjacent_count (lt:=lt) d j M1.2;have g2:=lM (d:=d) (s:=M1.2) hC hq hj hj2 (by omega) hsz;generalize medianAdjacent lt d j M1.2=M2 at*;have n3:=medianAdjacent_mem lt d k M2.2;have k3:=medianAdjacent_count (lt:=lt) d k M2.2;have g3:=lM (d:=d) (s:=M2.2) hC hq hk hk2 (by omega) hsz;generalize medianAdjacent lt d k M2.2=M3 at*;refine⟨?_,DL hC hq (by omega) (by omega) (by omega) (by omega)⟩;simp only[g1,bind_some,g2,g3]
theorem Jm (hC:∀ x y,C x y=some (f x y)) (hq:∀ x y,q (f x y)=lt x y) {d:Array α} {a b:Nat} (hab:a < b) (hb:b<=d.size) (hsz:d.size < 1152921504606846976):
 mK C q d.toList (a:Int) (b:Int)=some (((choosePivot lt d a b).1:Int),I5 (choosePivot lt d a b).2):=by
 have e1:i64.wrap ((b:Int) - (a:Int))=((b - a:Nat):Int):=AP (by omega) (by omega);have e2:i64.wrap (Int.tdiv ((b - a:Nat):Int) 4)=(((b - a)/4:Nat):Int):=by rw[show (4:Int)=((4:Nat):Int)from rfl,Fv,jv (by omega)]
 have p1:i64.wrap ((((b - a)/4:Nat):Int)*1)=(((b - a)/4*1:Nat):Int):=by rw[dV (by omega) (by omega)];omega
 have p2:i64.wrap ((((b - a)/4:Nat):Int)*2)=(((b - a)/4*2:Nat):Int):=by rw[dV (by omega) (by omega)];omega
 have p3:i64.wrap ((((b - a)/4:Nat):Int)*3)=(((b - a)/4*3:Nat):Int):=by rw[dV (by omega) (by omega)];omega
 have q1:i64.wrap ((a:Int)+(((b - a)/4*1:Nat):Int))=((a+(b - a)/4*1:Nat):Int):=G9 (by omega);have q2:i64.wrap ((a:Int)+(((b - a)/4*2:Nat):Int))=((a+(b - a)/4*2:Nat):Int):=G9 (by omega);have q3:i64.wrap ((a:Int)+(((b - a)/4*3:Nat):Int))=((a+(b - a)/4*3:Nat):Int):=G9 (by omega);have four:(4 != 0)=true:=rfl;have fin:∀ (x:Nat) (s:Nat),((bif ((s:Int)==(0:Int))then some ((x:Int),(1:Int))else (bif ((s:Int)==(12:Int))then some ((x:Int),(2:Int))else some ((x:Int),(0:Int)))):Option (Int×Int))=some ((x:Int),I5 (if s=0 then .increasing else if s=12 then .decreasing else .unknown)):=by
  intro x s;by_cases h0:s=0
  ·subst h0;rfl
  ·have z0:((s:Int)==0)=false:=(by rw[beq_eq_false_iff_ne];omega);by_cases h12:s=12
   ·subst h12;rfl
   ·have z12:((s:Int)==12)=false:=(by rw[beq_eq_false_iff_ne];omega);simp only[z0,z12,cond_false,h0,h12,if_false,I5]
 unfold mK choosePivot;simp only[four,cond_true,e1,e2,p1,p2,p3,q1,q2,q3];by_cases h8:b - a>=8
 ·have c8:decide (((b - a:Nat):Int)>=8)=true:=by simp;omega
  by_cases h50:b - a>=50
  ·have c50:decide (((b - a:Nat):Int)>=50)=true:=(by simp;omega);have hi:0 < a+(b - a)/4*1:=(by omega);have hj:0 < a+(b - a)/4*2:=(by omega);have hk:0 < a+(b - a)/4*3:=(by omega);have hi2:a+(b - a)/4*1+1 < d.size:=(by omega);have hj2:a+(b - a)/4*2+1 < d.size:=(by omega);have hk2:a+(b - a)/4*3+1 < d.size:=(by omega);obtain⟨g1,g2⟩:=aaw hC hq hi hi2 hj hj2 hk hk2 hsz;simp only[c8,cond_true,c50,g1,bind_some,g2,fin,if_pos h8,if_pos h50]
  ·have c50:decide (((b - a:Nat):Int)>=50)=false:=(by simp;omega);have g:uP C q d.toList ((a+(b - a)/4*1:Nat):Int) ((a+(b - a)/4*2:Nat):Int) ((a+(b - a)/4*3:Nat):Int) 0=_:=DL (s:=0) hC hq (by omega) (by omega) (by omega) (by omega);simp only[c8,cond_true,c50,cond_false,bind_some,g,fin,if_pos h8,if_neg h50]
 ·have c8:decide (((b - a:Nat):Int)>=8)=false:=by simp;omega
  simp only[c8,cond_false,bind_some,if_neg h8];rfl
def Pz (npt:Int->Option Int):Prop:=∀ L:Nat,8<=L->L < 1152921504606846976->npt (L:Int)=some ((2 ^ bitsLen L:Nat):Int)
def Mq (xsh:Int->Option (Int×Int)):Prop:=∀ r:Nat,r < 18446744073709551616->xsh (r:Int)=some ((xorNextN r:Int),(xorNextN r:Int))
theorem YP (r:UInt64):(xorNext r).toNat=xorNextN r.toNat:=xorNext_toNat r
theorem AR (a len m:Nat) (st:UInt64×Array α) (idx:Nat):(breakStep a len m st idx).2.size=st.2.size:=by simp[breakStep,size_swp]
theorem AU {npt:Int->Option Int} {xsh:Int->Option (Int×Int)} (hx:Mq xsh) (a0:List α) {a b:Nat} {d:Array α} {r:UInt64} {idx:Nat} (h0:a0.length=d.size) (hb:b<=d.size) (h8:8<=b - a) (hsz:d.size < 1152921504606846976)
 (hi:a<=idx) (hi2:idx < b) (hle:idx<=a+(b - a)/4*2+1):
 gU npt xsh a0 (a:Int) (b:Int) ((2 ^ bitsLen (b - a):Nat):Int) ((idx:Int),d.toList,(r.toNat:Int))=some (.inl (((idx+1:Nat):Int),(breakStep a (b - a) (1 <<< bitsLen (b - a)) (r,d) idx).2.toList,((breakStep a (b - a) (1 <<< bitsLen (b - a)) (r,d) idx).1.toNat:Int))):=by
 have e1:i64.wrap ((b:Int) - (a:Int))=((b - a:Nat):Int):=AP (by omega) (by omega);have e2:i64.wrap (Int.tdiv ((b - a:Nat):Int) 4)=(((b - a)/4:Nat):Int):=by rw[show (4:Int)=((4:Nat):Int)from rfl,Fv,jv (by omega)]
 have p2:i64.wrap ((((b - a)/4:Nat):Int)*2)=(((b - a)/4*2:Nat):Int):=by rw[dV (by omega) (by omega)];omega
 have q2:i64.wrap ((a:Int)+(((b - a)/4*2:Nat):Int))=((a+(b - a)/4*2:Nat):Int):=G9 (by omega);have q3:i64.wrap (((a+(b - a)/4*2:Nat):Int)+1)=((a+(b - a)/4*2+1:Nat):Int):=au (by omega);have c:decide (((idx:Nat):Int)<=((a+(b - a)/4*2+1:Nat):Int))=true:=by simp;omega
 have four:(4 != 0)=true:=rfl;have hp:=two_pow_bitsLen_le (n:=b - a) (by omega);have hp1:=lt_two_pow_bitsLen (b - a);have sh:1 <<< bitsLen (b - a)=2 ^ bitsLen (b - a):=by rw[Nat.shiftLeft_eq,Nat.one_mul]
 have hr:=r.toNat_lt;have hr2:xorNextN r.toNat < 18446744073709551616:=xorNextN_lt _ (by omega);have m1:IntKind.u64.wrap (((2 ^ bitsLen (b - a):Nat):Int) - 1)=((2 ^ bitsLen (b - a) - 1:Nat):Int):=by rw[show ((2 ^ bitsLen (b - a):Nat):Int) - 1=((2 ^ bitsLen (b - a) - 1:Nat):Int)by omega,lZ (by omega)]
 have al:xorNextN r.toNat &&& (2 ^ bitsLen (b - a) - 1)<=2 ^ bitsLen (b - a) - 1:=Nat.and_le_right;have m2:i64.wrap (bits .and .u64 ((xorNextN r.toNat:Nat):Int) ((2 ^ bitsLen (b - a) - 1:Nat):Int))=((xorNextN r.toNat &&& (2 ^ bitsLen (b - a) - 1):Nat):Int):=by rw[aav hr2 (by omega),jv (by omega)]
 generalize hO:xorNextN r.toNat &&& (2 ^ bitsLen (b - a) - 1)=O at*;have pick:((bif (decide ((O:Int)>=((b - a:Nat):Int)))then some (i64.wrap ((O:Int) - ((b - a:Nat):Int)))else some (O:Int)):Option Int)=some (((if O>=b - a then O - (b - a)else O:Nat)):Int):=by
  by_cases h:O>=b - a
  ·have c:decide ((O:Int)>=((b - a:Nat):Int))=true:=(by simp;omega);rw[c,cond_true,AP (by omega) (by omega),if_pos h]
  ·have c:decide ((O:Int)>=((b - a:Nat):Int))=false:=(by simp;omega);rw[c,cond_false,if_neg h]
 have hpk:(if O>=b - a then O - (b - a)else O) < b - a:=by split<;>omega
 unfold breakStep;simp only[YP,sh,hO];generalize (if O>=b - a then O - (b - a)else O)=P at*;have hP:a+P < d.size:=by omega
 have hI:idx < d.size:=by omega
 have i1:inb ((a+P:Nat):Int) a0.length=true:=fU (by omega);have i2:inb ((idx:Nat):Int) a0.length=true:=fU (by omega);simp only[gU,four,cond_true,e1,e2,p2,q2,q3,c,hx _ (show r.toNat < 18446744073709551616 by omega),bind_some,m1,m2,pick,G9 (show a+P<=9223372036854775807 by omega),i1,i2,bW hP,bW hI,yH,AL hP,AO];rw[au (by omega)]
theorem Fw {npt:Int->Option Int} {xsh:Int->Option (Int×Int)} (hn:Pz npt) (hx:Mq xsh) {d:Array α} {a b n:Nat} (hab:a<=b) (hb:b<=d.size) (hsz:d.size < 1152921504606846976) (hn4:4 < n):
 iL npt xsh n d.toList (a:Int) (b:Int)=some (breakPatterns d a b).toList:=by
 have e1:i64.wrap ((b:Int) - (a:Int))=((b - a:Nat):Int):=AP (by omega) (by omega);unfold iL breakPatterns;rw[e1];by_cases h8:b - a>=8
 ·have c:decide (((b - a:Nat):Int)>=8)=true:=by simp;omega
  have e2:i64.wrap (Int.tdiv ((b - a:Nat):Int) 4)=(((b - a)/4:Nat):Int):=by rw[show (4:Int)=((4:Nat):Int)from rfl,Fv,jv (by omega)]
  have p2:i64.wrap ((((b - a)/4:Nat):Int)*2)=(((b - a)/4*2:Nat):Int):=by rw[dV (by omega) (by omega)];omega
  have q2:i64.wrap ((a:Int)+(((b - a)/4*2:Nat):Int))=((a+(b - a)/4*2:Nat):Int):=G9 (by omega);have q3:i64.wrap (((a+(b - a)/4*2:Nat):Int)+1)=((a+(b - a)/4*2+1:Nat):Int):=au (by omega);have q4:i64.wrap (((a+(b - a)/4*2:Nat):Int) - 1)=((a+(b - a)/4*2 - 1:Nat):Int):=w1 (by omega) (by omega);have four:(4 != 0)=true:=rfl;have u:IntKind.u64.wrap ((b - a:Nat):Int)=((UInt64.ofNat (b - a)).toNat:Int):=by
   rw[lZ (by omega),UInt64.toNat_ofNat'];congr 1;omega
  have cstop:decide (((a+(b - a)/4*2+1+1:Nat):Int)<=((a+(b - a)/4*2+1:Nat):Int))=false:=by simp;omega
  simp only[c,cond_true,hn (b - a) h8 (by omega),bind_some,four,e2,p2,q2,q4,u,jv (show b - a<=9223372036854775807 by omega)];rw[if_pos h8];generalize hI:a+(b - a)/4*2 - 1=I at*;generalize hst:(UInt64.ofNat (b - a),d)=st at*;have s1:=AU (a0:=d.toList) (npt:=npt) hx (a:=a) (b:=b) (d:=st.2) (r:=st.1) (idx:=I) (by rw[<- hst];simp) (by rw[<- hst];exact hb) h8 (by rw[<- hst];exact hsz) (by omega) (by omega) (by omega);have z1:=AR a (b - a) (1 <<< bitsLen (b - a)) st I;have s2:=AU (a0:=d.toList) (npt:=npt) hx (a:=a) (b:=b) (d:=(breakStep a (b - a) (1 <<< bitsLen (b - a)) st I).2) (r:=(breakStep a (b - a) (1 <<< bitsLen (b - a)) st I).1) (idx:=I+1) (by rw[z1,<- hst];simp) (by rw[z1,<- hst];exact hb) h8 (by rw[z1,<- hst];exact hsz) (by omega) (by omega) (by omega);have z2:=AR a (b - a) (1 <<< bitsLen (b - a)) (breakStep a (b - a) (1 <<< bitsLen (b - a)) st I) (I+1);have s3:=AU (a0:=d.toList) (npt:=npt) hx (a:=a) (b:=b) (d:=(breakStep a (b - a) (1 <<< bitsLen (b - a)) (breakStep a (b - a) (1 <<< bitsLen (b - a)) st I) (I+1)).2) (r:=(breakStep a (b - a) (1 <<< bitsLen (b - a)) (breakStep a (b - a) (1 <<< bitsLen (b - a)) st I) (I+1)).1) (idx:=I+2) (by rw[z2,z1,<- hst];simp) (by rw[z2,z1,<- hst];exact hb) h8 (by rw[z2,z1,<- hst];exact hsz) (by omega) (by omega) (by omega);obtain⟨n,rfl⟩:∃ m,n=m+1+1+1+1:=⟨n - 4,by omega⟩;have d1:d.toList=st.2.toList:=by rw[<- hst]
  have d2:(UInt64.ofNat (b - a)).toNat=st.1.toNat:=by rw[<- hst]
  have step1:iter (gU npt xsh d.toList (a:Int) (b:Int) ((2 ^ bitsLen (b - a):Nat):Int)) (n+1+1+1+1) ((I:Int),st.2.toList,(st.1.toNat:Int))=some (breakStep a (b - a) (1 <<< bitsLen (b - a)) (breakStep a (b - a) (1 <<< bitsLen (b - a)) (breakStep a (b - a) (1 <<< bitsLen (b - a)) st I) (I+1)) (I+2)).2.toList:=by
   rw[aV s1,aV s2,aV s3];refine aJ ?_;have cs:decide (((I+2+1:Nat):Int)<=((a+(b - a)/4*2+1:Nat):Int))=false:=(by simp;omega);simp only[gU,four,cond_true,e1,e2,p2,q2,q3,cs,cond_false]
  rw[<- d1,<- d2]at step1;rw[step1];rfl
 ·have c:decide (((b - a:Nat):Int)>=8)=false:=by simp;omega
  rw[if_neg h8,c];rfl
end
section
variable {α R:Type} [Inhabited α]
theorem pu {step:Int->Option (Int ⊕ Int)} (p:α->Bool) (d:Array α) (j:Nat) (h:∀ i:Nat,i<=j+2->step (i:Int)=some (bif decide (i<=j)&&p d[i]! then .inl ((i+1:Nat):Int)else .inr (i:Int))):
 ∀ (m i n:Nat),j+1 - i<=m->i<=j+2->m < n->iter step n (i:Int)=some ((scanUp p d j i:Nat):Int):=by
 intro m
 induction m with
 |zero=>
  intro i n hm hi hn;obtain⟨n,rfl⟩:∃ m,n=m+1:=⟨n - 1,by omega⟩;have hi2:¬ i<=j:=by omega
  rw[scanUp,if_neg (by simp[hi2])];exact aJ (by rw[h i hi];simp[hi2])
 |succ m ih=>
  intro i n hm hi hn;obtain⟨n,rfl⟩:∃ m,n=m+1:=⟨n - 1,by omega⟩;have hs:=h i hi;cases hc:decide (i<=j)&&p d[i]! with
  |true=>
   rw[hc,cond_true]at hs;have hij:i<=j:=by
    rw[and_eq_true]at hc;exact of_decide_eq_true hc.1
   rw[aV hs,ih (i+1) n (by omega) (by omega) (by omega)]
   conv=>rhs;rw[scanUp,if_pos (by simpa using hc)]
  |false=>
   rw[hc,cond_false]at hs;rw[aJ hs,scanUp,if_neg (by rw[Bool.not_eq_true];simpa using hc)]
theorem jE {step:Int->Option (Int ⊕ Int)} (p:α->Bool) (d:Array α) (i:Nat) (hi:1<=i) (h:∀ j:Nat,j < d.size->step (j:Int)=some (bif decide (i<=j)&&p d[j]! then .inl ((j:Int) - 1)else .inr (j:Int))):
 ∀ (j n:Nat),j < d.size->j < n->iter step n (j:Int)=some ((scanDown p d i j:Nat):Int)
 | 0,n,hj,hn=>by
  obtain⟨n,rfl⟩:∃ m,n=m+1:=⟨n - 1,by omega⟩;have hi2:¬ i<=0:=by omega
  exact aJ (by rw[h 0 hj];simp[hi2,scanDown])
 |j+1,n,hj,hn=>by
  obtain⟨n,rfl⟩:∃ m,n=m+1:=⟨n - 1,by omega⟩;have hs:=h (j+1) hj;cases hc:decide (i<=j+1)&&p d[j+1]! with
  |true=>
   rw[hc,cond_true,show (((j+1:Nat):Int) - 1)=((j:Nat):Int)by omega]at hs;rw[aV hs,jE p d i hi h j n (by omega) (by omega)]
   conv=>rhs;rw[scanDown,if_pos (by simpa using hc)]
  |false=>
   rw[hc,cond_false]at hs;rw[aJ hs,scanDown,if_neg (by rw[Bool.not_eq_true];simpa using hc)]
variable {C:α->α->Option R} {q:R->Bool} {f:α->α->R} {lt:α->α->Bool}
theorem YQ (hC:∀ x y,C x y=some (f x y)) (hq:∀ x y,q (f x y)=lt x y) (a0:List α) (b:Nat) (d:Array α) (h0:a0.length=d.size) (hs:d.size < 1152921504606846976) (hb:b<=d.size):∀ (m i n:Nat),b - i<=m->0 < i->i<=d.size->m < n->
 iter (bC C q a0 (b:Int) d.toList) n (i:Int)=some ((scanSorted lt d b i:Nat):Int):=by
 intro m
 induction m with
 |zero=>
  intro i n hm h1 hi hn;obtain⟨n,rfl⟩:∃ m,n=m+1:=⟨n - 1,by omega⟩;have hi2:¬ i < b:=by omega
  have c:decide (((i:Nat):Int) < (b:Int))=false:=by simp;omega
  rw[scanSorted,if_neg (by simp[hi2])];exact aJ (by simp only[bC,c,cond_false,bind_some])
 |succ m ih=>
  intro i n hm h1 hi hn;obtain⟨n,rfl⟩:∃ m,n=m+1:=⟨n - 1,by omega⟩;by_cases hib:i < b
  ·have c:decide (((i:Nat):Int) < (b:Int))=true:=(by simpa using hib);have e:i64.wrap (((i:Nat):Int) - 1)=((i - 1:Nat):Int):=w1 h1 (by omega);have g1:i < d.size:=(by omega);have g2:i - 1 < d.size:=(by omega);cases hl:lt d[i]! d[i - 1]! with
   |true=>
    rw[scanSorted,if_neg (by rw[hl];simp)];exact aJ (by simp only[bC,c,cond_true,fU (show i < a0.length by omega),bW g1,bind_some,e,fU (show i - 1 < a0.length by omega),bW g2,hC,hq,hl,Bool.not_true,cond_false])
   |false=>
    have s:bC C q a0 (b:Int) d.toList (i:Int)=some (.inl ((i+1:Nat):Int)):=by
     simp only[bC,c,cond_true,fU (show i < a0.length by omega),bW g1,bind_some,e,fU (show i - 1 < a0.length by omega),bW g2,hC,hq,hl,Bool.not_false];rw[au (by omega)]
    rw[aV s,ih (i+1) n (by omega) (by omega) (by omega) (by omega)]
    conv=>rhs;rw[scanSorted,if_pos (by rw[hl];simp[hib])]
  ·have c:decide (((i:Nat):Int) < (b:Int))=false:=(by simp;omega);rw[scanSorted,if_neg (by simp[hib])];exact aJ (by simp only[bC,c,cond_false,bind_some])
theorem Mr (d:Array α) (b:Nat):∀ (m i:Nat),b - i<=m->i<=scanSorted lt d b i∧(i<=b->scanSorted lt d b i<=b):=by
 intro m
 induction m with
 |zero=>
  intro i hm;have:¬ i < b:=by omega
  rw[scanSorted,if_neg (by simp[this])];exact⟨Nat.le_refl _,fun h=>h⟩
 |succ m ih=>
  intro i hm;rw[scanSorted];split
  ·rename_i hc;have:i < b:=by
    rw[and_eq_true]at hc;exact of_decide_eq_true hc.1
   have:=ih (i+1) (by omega);exact⟨by omega,fun _=>this.2 (by omega)⟩
  ·exact⟨Nat.le_refl _,fun h=>h⟩
theorem AX:∀ (j:Nat) (d:Array α),(shiftDown lt j d).size=d.size
 | 0,d=>rfl
 |j+1,d=>by
  rw[shiftDown];split
  ·rfl
  ·rw[AX j,size_swp]
theorem PD (hC:∀ x y,C x y=some (f x y)) (hq:∀ x y,q (f x y)=lt x y) (a0:List α):∀ (j:Nat) (d:Array α) (n:Nat),a0.length=d.size->d.size < 1152921504606846976->j < d.size->j < n->
 iter (bD C q a0) n ((j:Int),d.toList)=some (shiftDown lt j d).toList
 | 0,d,n,h0,hs,hj,hn=>by
  obtain⟨n,rfl⟩:∃ m,n=m+1:=⟨n - 1,by omega⟩;exact aJ (by simp[bD,shiftDown])
 |j+1,d,n,h0,hs,hj,hn=>by
  obtain⟨n,rfl⟩:∃ m,n=m+1:=⟨n - 1,by omega⟩;have c:decide (((j+1:Nat):Int)>=1)=true:=by simp;omega
  have e:i64.wrap (((j+1:Nat):Int) - 1)=((j:Nat):Int):=by rw[w1 (by omega) (by omega)];rfl
  have hj2:j < d.size:=by omega
  have i1:inb (((j+1:Nat)):Int) a0.length=true:=fU (by omega);have i2:inb ((j:Nat):Int) a0.length=true:=fU (by omega);cases hl:lt d[j+1]! d[j]! with
  |true=>
   have s:bD C q a0 (((j+1:Nat):Int),d.toList)=some (.inl (((j:Nat):Int),(swp d (j+1) j).toList)):=(by simp only[bD,c,cond_true,i1,bW hj,bind_some,e,i2,bW hj2,hC,hq,hl,Bool.not_true,cond_false,yH,AL hj2,AO]);rw[aV s,PD hC hq a0 j _ n (by rw[size_swp];exact h0) (by rw[size_swp];exact hs) (by rw[size_swp];exact hj2) (by omega),shiftDown,if_neg (by rw[hl];simp)]
  |false=>
   rw[shiftDown,if_pos (by rw[hl];rfl)];exact aJ (by simp only[bD,c,cond_true,i1,bW hj,bind_some,e,i2,bW hj2,hC,hq,hl,Bool.not_false])
theorem Rc (b:Nat):∀ (m j:Nat) (d:Array α),b - j<=m->(shiftUp lt b j d).size=d.size:=by
 intro m
 induction m with
 |zero=>
  intro j d hm;rw[shiftUp,if_neg (by omega)]
 |succ m ih=>
  intro j d hm;rw[shiftUp];split
  ·split
   ·rfl
   ·rw[ih _ _ (by omega),size_swp]
  ·rfl
theorem YR (hC:∀ x y,C x y=some (f x y)) (hq:∀ x y,q (f x y)=lt x y) (a0:List α) (b:Nat):∀ (m j:Nat) (d:Array α) (n:Nat),b - j<=m->0 < j->a0.length=d.size->d.size < 1152921504606846976->b<=d.size->m < n->
 iter (aY C q a0 (b:Int)) n ((j:Int),d.toList)=some (shiftUp lt b j d).toList:=by
 intro m
 induction m with
 |zero=>
  intro j d n hm hj h0 hs hb hn;obtain⟨n,rfl⟩:∃ m,n=m+1:=⟨n - 1,by omega⟩;have c:decide (((j:Nat):Int) < (b:Int))=false:=by simp;omega
  rw[shiftUp,if_neg (by omega)];exact aJ (by simp only[aY,c,cond_false])
 |succ m ih=>
  intro j d n hm hj h0 hs hb hn;obtain⟨n,rfl⟩:∃ m,n=m+1:=⟨n - 1,by omega⟩;by_cases hjb:j < b
  ·have c:decide (((j:Nat):Int) < (b:Int))=true:=(by simpa using hjb);have e:i64.wrap (((j:Nat):Int) - 1)=((j - 1:Nat):Int):=w1 hj (by omega);have g1:j < d.size:=(by omega);have g2:j - 1 < d.size:=(by omega);have i1:inb ((j:Nat):Int) a0.length=true:=fU (by omega);have i2:inb ((j - 1:Nat):Int) a0.length=true:=fU (by omega);cases hl:lt d[j]! d[j - 1]! with
   |true=>
    have s:aY C q a0 (b:Int) ((j:Int),d.toList)=some (.inl (((j+1:Nat):Int),(swp d j (j - 1)).toList)):=by
     simp only[aY,c,cond_true,i1,bW g1,bind_some,e,i2,bW g2,hC,hq,hl,Bool.not_true,cond_false,yH,AL g2,AO];rw[au (by omega)]
    rw[aV s,ih (j+1) _ n (by omega) (by omega) (by rw[size_swp];exact h0) (by rw[size_swp];exact hs) (by rw[size_swp];exact hb) (by omega)]
    conv=>rhs;rw[shiftUp,if_pos hjb,if_neg (by rw[hl];simp)]
   |false=>
    rw[shiftUp,if_pos hjb,if_pos (by rw[hl];rfl)];exact aJ (by simp only[aY,c,cond_true,i1,bW g1,bind_some,e,i2,bW g2,hC,hq,hl,Bool.not_false])
  ·have c:decide (((j:Nat):Int) < (b:Int))=false:=(by simp;omega);rw[shiftUp,if_neg hjb];exact aJ (by simp only[aY,c,cond_false])
theorem Rf (a i:Nat) (d:Array α):(fixDown lt a i d).size=d.size:=by
 unfold fixDown;split
 ·exact AX _ _
 ·rfl
theorem V3 (b i:Nat) (d:Array α):(fixUp lt b i d).size=d.size:=by
 unfold fixUp;split
 ·exact Rc b b _ _ (by omega)
 ·rfl
theorem YS (hC:∀ x y,C x y=some (f x y)) (hq:∀ x y,q (f x y)=lt x y) (a0:List α) (a b:Nat) {n:Nat}:∀ (s i:Nat) (d:Array α) (k:Nat),s<=5->a < i->i<=b->a0.length=d.size->d.size < 1152921504606846976->b<=d.size->d.size < n->s < k->
 ∃ r,iter (aZ C q n a0 (a:Int) (b:Int)) k ((i:Int),((5 - s:Nat):Int),d.toList)=some r∧(partialIns lt a b s i d).1.size=d.size∧
   (r= .inl (partialIns lt a b s i d).1.toList∧(partialIns lt a b s i d).2=false∨r= .inr ((partialIns lt a b s i d).2,(partialIns lt a b s i d).1.toList)):=by
 intro s
 induction s with
 |zero=>
  intro i d k h5 hai hib h0 hs hb hn hk;obtain⟨k,rfl⟩:∃ m,k=m+1:=⟨k - 1,by omega⟩;exact⟨.inl d.toList,aJ (by simp[aZ]),rfl,.inl ⟨rfl,rfl⟩⟩
 |succ s ih=>
  intro i d k h5 hai hib h0 hs hb hn hk;obtain⟨k,rfl⟩:∃ m,k=m+1:=⟨k - 1,by omega⟩;have c5:decide (((5 - (s+1):Nat):Int) < 5)=true:=by simp;omega
  have sc:=YQ hC hq a0 b d h0 hs hb b i n (by omega) (by omega) (by omega) (by omega);obtain⟨r1,r2⟩:=Mr (lt:=lt) d b b i (by omega);have r2:=r2 hib;rw[partialIns_succ];generalize scanSorted lt d b i=I at*;by_cases hIb:I=b
  ·refine⟨.inr (true,d.toList),aJ ?_,by rw[if_pos hIb],.inr (by rw[if_pos hIb])⟩;have cb:((I:Int)==(b:Int))=true:=(by rw[beq_iff_eq];omega);simp only[aZ,c5,cond_true,sc,bind_some,cb,Option.map_some,Cc]
  ·have cb:((I:Int)==(b:Int))=false:=(by rw[beq_eq_false_iff_ne];omega);have eab:i64.wrap ((b:Int) - (a:Int))=((b - a:Nat):Int):=AP (by omega) (by omega);rw[if_neg hIb];by_cases h50:b - a < 50
   ·have c50:decide (((b - a:Nat):Int) < 50)=true:=(by simp;omega);refine⟨.inr (false,d.toList),aJ ?_,by rw[if_pos h50],.inr (by rw[if_pos h50])⟩;simp only[aZ,c5,cond_true,sc,bind_some,cb,cond_false,eab,c50,Option.map_some,Cc]
   ·have c50:decide (((b - a:Nat):Int) < 50)=false:=(by simp;omega);rw[if_neg h50];have g1:I < d.size:=(by omega);have g2:I - 1 < d.size:=(by omega);have i1:inb ((I:Nat):Int) a0.length=true:=fU (by omega);have i2:inb ((I - 1:Nat):Int) a0.length=true:=fU (by omega);have e:i64.wrap (((I:Nat):Int) - 1)=((I - 1:Nat):Int):=w1 (by omega) (by omega);have ea:i64.wrap ((I:Int) - (a:Int))=((I - a:Nat):Int):=AP (by omega) (by omega);have eb:i64.wrap ((b:Int) - (I:Int))=((b - I:Nat):Int):=AP (by omega) (by omega);have zS:(swp d I (I - 1)).size=d.size:=size_swp _ _ _;have fd:((bif (decide (((I - a:Nat):Int)>=(2:Int)))then (iter (bD C q a0) n (((I - 1:Nat):Int),(swp d I (I - 1)).toList)).bind fun w2=>some w2 else some (swp d I (I - 1)).toList):Option (List α))=some (fixDown lt a I (swp d I (I - 1))).toList:=by
     unfold fixDown;by_cases h2:I - a>=2
     ·have c2:decide (((I - a:Nat):Int)>=2)=true:=(by simp;omega);rw[c2,cond_true,PD hC hq a0 (I - 1) _ n (by rw[zS];exact h0) (by rw[zS];exact hs) (by rw[zS];exact g2) (by omega),if_pos h2];rfl
     ·have c2:decide (((I - a:Nat):Int)>=2)=false:=(by simp;omega);rw[c2,cond_false,if_neg h2]
    have zD:(fixDown lt a I (swp d I (I - 1))).size=d.size:=(by rw[Rf,zS]);have fu:((bif (decide (((b - I:Nat):Int)>=(2:Int)))then (iter (aY C q a0 (b:Int)) n (((I+1:Nat):Int),(fixDown lt a I (swp d I (I - 1))).toList)).bind fun w3=>some (.inl ((I:Int),w3))else some (.inl ((I:Int),(fixDown lt a I (swp d I (I - 1))).toList))):Option ((Int×List α) ⊕ ((Int×Int×List α) ⊕ ((List α) ⊕ (Bool×(List α))))))=some (.inl ((I:Int),(fixUp lt b I (fixDown lt a I (swp d I (I - 1)))).toList)):=by
     unfold fixUp;by_cases h2:b - I>=2
     ·have c2:decide (((b - I:Nat):Int)>=2)=true:=(by simp;omega);rw[c2,cond_true,YR hC hq a0 b b (I+1) _ n (by omega) (by omega) (by rw[zD];exact h0) (by rw[zD];exact hs) (by rw[zD];exact hb) (by omega),if_pos h2];rfl
     ·have c2:decide (((b - I:Nat):Int)>=2)=false:=(by simp;omega);rw[c2,cond_false,if_neg h2]
    have zU:(fixUp lt b I (fixDown lt a I (swp d I (I - 1)))).size=d.size:=(by rw[V3,zD]);have s1:aZ C q n a0 (a:Int) (b:Int) ((i:Int),((5 - (s+1):Nat):Int),d.toList)=some (.inl ((I:Int),((5 - s:Nat):Int),(fixUp lt b I (fixDown lt a I (swp d I (I - 1)))).toList)):=by
     simp only[aZ,c5,cond_true,sc,bind_some,cb,cond_false,eab,c50,e,i2,bW g2,i1,bW g1,yH,AL g2,AO,ea,eb,fd];rw[au (by omega),fu,au (by omega),show 5 - (s+1)+1=5 - s by omega];rfl
    obtain⟨r,g1,g2,g3⟩:=ih I (fixUp lt b I (fixDown lt a I (swp d I (I - 1)))) k (by omega) (by omega) (by omega) (by rw[zU];exact h0) (by rw[zU];exact hs) (by rw[zU];exact hb) (by rw[zU];exact hn) (by omega);exact⟨r,by rw[aV s1];exact g1,by rw[g2,zU],g3⟩
theorem vC (hC:∀ x y,C x y=some (f x y)) (hq:∀ x y,q (f x y)=lt x y) {d:Array α} {a b n:Nat} (hab:a < b) (hb:b<=d.size) (hs:d.size < 1152921504606846976) (hn:d.size < n) (hn5:5 < n):
 cu C q n d.toList (a:Int) (b:Int)=some ((partialInsertionSort lt d a b).2,(partialInsertionSort lt d a b).1.toList)∧(partialInsertionSort lt d a b).1.size=d.size:=by
 unfold cu partialInsertionSort;obtain⟨r,h1,h2,h3⟩:=YS hC hq d.toList a b 5 (a+1) d n (by omega) (by omega) (by omega) (by simp) hs hb hn hn5;refine⟨?_,h2⟩;rw[au (by omega)];have h1':iter (aZ C q n d.toList (a:Int) (b:Int)) n (((a+1:Nat):Int),(0:Int),d.toList)=some r:=h1;rw[h1'];rcases h3 with ⟨h3,h4⟩ |h3
 ·rw[h3,h4];rfl
 ·rw[h3];rfl
theorem adg (hC:∀ x y,C x y=some (f x y)) (hq:∀ x y,q (f x y)=lt x y) (a0:List α) (d:Array α) {a j:Nat} (h0:a0.length=d.size) (hs:d.size < 1152921504606846976) (ha:a < d.size) (hj:j < d.size) (i:Nat) (hi:i<=j+2):
 ja C q a0 (a:Int) (j:Int) d.toList (i:Int)=some (bif decide (i<=j)&&(fun x=>!lt d[a]! x) d[i]! then .inl ((i+1:Nat):Int)else .inr (i:Int)):=by
 by_cases h:i<=j
 ·have c:decide ((i:Int)<=(j:Int))=true:=by simpa using h
  have g:i < d.size:=by omega
  simp only[ja,c,cond_true,fU (show a < a0.length by omega),bW ha,bind_some,fU (show i < a0.length by omega),bW g,hC,hq,h,decide_true,Bool.true_and];rw[au (by omega)];cases lt d[a]! d[i]! <;>rfl
 ·have c:decide ((i:Int)<=(j:Int))=false:=by simp;omega
  simp only[ja,c,cond_false,bind_some,h,decide_false,Bool.false_and]
theorem adh (hC:∀ x y,C x y=some (f x y)) (hq:∀ x y,q (f x y)=lt x y) (a0:List α) (d:Array α) {a i:Nat} (h0:a0.length=d.size) (hs:d.size < 1152921504606846976) (ha:a < d.size) (j:Nat) (hj:j < d.size):
 jb C q a0 (a:Int) d.toList (i:Int) (j:Int)=some (bif decide (i<=j)&&(fun x=>lt d[a]! x) d[j]! then .inl ((j:Int) - 1)else .inr (j:Int)):=by
 by_cases h:i<=j
 ·have c:decide ((i:Int)<=(j:Int))=true:=by simpa using h
  simp only[jb,c,cond_true,fU (show a < a0.length by omega),bW ha,bind_some,fU (show j < a0.length by omega),bW hj,hC,hq,h,decide_true,Bool.true_and];rw[dV (by omega) (by omega)];cases lt d[a]! d[j]! <;>rfl
 ·have c:decide ((i:Int)<=(j:Int))=false:=by simp;omega
  simp only[jb,c,cond_false,bind_some,h,decide_false,Bool.false_and]
theorem aax (hC:∀ x y,C x y=some (f x y)) (hq:∀ x y,q (f x y)=lt x y) (a0:List α) (a:Nat) {n:Nat}:∀ (m i j:Nat) (d:Array α) (k:Nat),j+1 - i<=m->1<=i->i<=j+2->a0.length=d.size->d.size < 1152921504606846976->a < d.size->j < d.size->d.size < n->m < k->
 iter (dS C q n a0 (a:Int)) k ((i:Int),(j:Int),d.toList)=some (((partEqLoop lt a i j d).1:Int),(partEqLoop lt a i j d).2.toList)∧(partEqLoop lt a i j d).2.size=d.size:=by
 intro m
 induction m with
 |zero=>
  intro i j d k hm h1 hij h0 hs ha hj hn hk;obtain⟨k,rfl⟩:∃ m,k=m+1:=⟨k - 1,by omega⟩;have s2:=pu (fun x=>!lt d[a]! x) d j (adg hC hq a0 d h0 hs ha hj) (j+1) i n (by omega) hij (by omega);have u1:=scanUp_ge (fun x=>!lt d[a]! x) d j i;have u2:=scanDown_le (fun x=>lt d[a]! x) d (scanUp (fun x=>!lt d[a]! x) d j i) j;have s3:=jE (fun x=>lt d[a]! x) d (scanUp (fun x=>!lt d[a]! x) d j i) (by omega) (adh hC hq a0 d h0 hs ha) j n hj (by omega);rw[partEqLoop_eq];have hc:scanUp (fun x=>!lt d[a]! x) d j i>scanDown (fun x=>lt d[a]! x) d (scanUp (fun x=>!lt d[a]! x) d j i) j:=by omega
  have c:decide (((scanUp (fun x=>!lt d[a]! x) d j i:Nat):Int)>((scanDown (fun x=>lt d[a]! x) d (scanUp (fun x=>!lt d[a]! x) d j i) j:Nat):Int))=true:=by simp;omega
  rw[if_pos hc];exact⟨aJ (by simp only[dS,s2,bind_some,s3,c,cond_true]),rfl⟩
 |succ m ih=>
  intro i j d k hm h1 hij h0 hs ha hj hn hk;obtain⟨k,rfl⟩:∃ m,k=m+1:=⟨k - 1,by omega⟩;have s2:=pu (fun x=>!lt d[a]! x) d j (adg hC hq a0 d h0 hs ha hj) (j+1) i n (by omega) hij (by omega);have u1:=scanUp_ge (fun x=>!lt d[a]! x) d j i;have u2:=scanDown_le (fun x=>lt d[a]! x) d (scanUp (fun x=>!lt d[a]! x) d j i) j;have s3:=jE (fun x=>lt d[a]! x) d (scanUp (fun x=>!lt d[a]! x) d j i) (by omega) (adh hC hq a0 d h0 hs ha) j n hj (by omega);rw[partEqLoop_eq];generalize scanUp (fun x=>!lt d[a]! x) d j i=I at*;generalize scanDown (fun x=>lt d[a]! x) d I j=J at*;by_cases hc:I>J
  ·have c:decide (((I:Nat):Int)>((J:Nat):Int))=true:=(by simp;omega);rw[if_pos hc];exact⟨aJ (by simp only[dS,s2,bind_some,s3,c,cond_true]),rfl⟩
  ·have c:decide (((I:Nat):Int)>((J:Nat):Int))=false:=(by simp;omega);rw[if_neg hc];have gI:I < d.size:=(by omega);have gJ:J < d.size:=(by omega);have s:dS C q n a0 (a:Int) ((i:Int),(j:Int),d.toList)=some (.inl (((I+1:Nat):Int),((J - 1:Nat):Int),(swp d I J).toList)):=by
    simp only[dS,s2,bind_some,s3,c,cond_false,fU (show J < a0.length by omega),fU (show I < a0.length by omega),cond_true,bW gJ,bW gI,yH,AL gJ,AO];rw[au (by omega),w1 (by omega) (by omega)]
   have zz:(swp d I J).size=d.size:=size_swp _ _ _;obtain⟨g1,g2⟩:=ih (I+1) (J - 1) (swp d I J) k (by omega) (by omega) (by omega) (by rw[zz];exact h0) (by rw[zz];exact hs) (by rw[zz];exact ha) (by rw[zz];omega) (by rw[zz];exact hn) (by omega);exact⟨by rw[aV s];exact g1,by rw[g2,zz]⟩
theorem DR (hC:∀ x y,C x y=some (f x y)) (hq:∀ x y,q (f x y)=lt x y) {d:Array α} {a b p n:Nat} (hap:a<=p) (hpb:p < b) (hb:b<=d.size) (hs:d.size < 1152921504606846976) (hn:d.size < n):
 gq C q n d.toList (a:Int) (b:Int) (p:Int)=some (((partitionEqual lt d a b p).1:Int),(partitionEqual lt d a b p).2.toList)∧(partitionEqual lt d a b p).2.size=d.size:=by
 unfold gq partitionEqual;have ga:a < d.size:=by omega
 have gp:p < d.size:=by omega
 have zz:(swp d a p).size=d.size:=size_swp _ _ _;obtain⟨g1,g2⟩:=aax hC hq d.toList a d.size (a+1) (b - 1) (swp d a p) n (by omega) (by omega) (by omega) (by rw[zz];simp) (by rw[zz];exact hs) (by rw[zz];exact ga) (by rw[zz];omega) (by rw[zz];exact hn) hn;refine⟨?_,by rw[g2,zz]⟩;have ll:d.toList.length=d.size:=by simp
 simp only[fU (show p < d.toList.length by omega),fU (show a < d.toList.length by omega),cond_true,bW gp,bW ga,bind_some,yH,AL gp,AO];rw[au (by omega),w1 (by omega) (by omega),g1];rfl
theorem acM (hC:∀ x y,C x y=some (f x y)) (hq:∀ x y,q (f x y)=lt x y) (a0:List α) (d:Array α) {a j:Nat} (h0:a0.length=d.size) (hs:d.size < 1152921504606846976) (ha:a < d.size) (hj:j < d.size) (i:Nat) (hi:i<=j+2):
 iw C q a0 (a:Int) (j:Int) d.toList (i:Int)=some (bif decide (i<=j)&&(fun x=>lt x d[a]!) d[i]! then .inl ((i+1:Nat):Int)else .inr (i:Int)):=by
 by_cases h:i<=j
 ·have c:decide ((i:Int)<=(j:Int))=true:=by simpa using h
  have g:i < d.size:=by omega
  simp only[iw,c,cond_true,fU (show a < a0.length by omega),bW ha,bind_some,fU (show i < a0.length by omega),bW g,hC,hq,h,decide_true,Bool.true_and];rw[au (by omega)];cases lt d[i]! d[a]! <;>rfl
 ·have c:decide ((i:Int)<=(j:Int))=false:=by simp;omega
  simp only[iw,c,cond_false,bind_some,h,decide_false,Bool.false_and]
theorem acN (hC:∀ x y,C x y=some (f x y)) (hq:∀ x y,q (f x y)=lt x y) (a0:List α) (d:Array α) {a i:Nat} (h0:a0.length=d.size) (hs:d.size < 1152921504606846976) (ha:a < d.size) (j:Nat) (hj:j < d.size):
 iy C q a0 (a:Int) d.toList (i:Int) (j:Int)=some (bif decide (i<=j)&&(fun x=>!lt x d[a]!) d[j]! then .inl ((j:Int) - 1)else .inr (j:Int)):=by
 by_cases h:i<=j
 ·have c:decide ((i:Int)<=(j:Int))=true:=by simpa using h
  simp only[iy,c,cond_true,fU (show a < a0.length by omega),bW ha,bind_some,fU (show j < a0.length by omega),bW hj,hC,hq,h,decide_true,Bool.true_and];rw[dV (by omega) (by omega)];cases lt d[j]! d[a]! <;>rfl
 ·have c:decide ((i:Int)<=(j:Int))=false:=by simp;omega
  simp only[iy,c,cond_false,bind_some,h,decide_false,Bool.false_and]
theorem adq (a0:List α) (d:Array α) {a b p:Nat} (hb:0 < b) (hs:d.size < 1152921504606846976) (hbs:b<=d.size) (he:((a0.set (((0:Nat):Int)+(a:Int)).toNat a0[p]!).set (((0:Nat):Int)+(p:Int)).toNat a0[a]!)=d.toList) (v:Int):
 kT C q a0 (a:Int) (b:Int) (p:Int) a0[p]! a0[a]! v=iw C q a0 (a:Int) ((b - 1:Nat):Int) d.toList v:=by
 simp only[kT,iw,he];rw[w1 hb (by omega)]
theorem adr (a0:List α) (d:Array α) {a p:Nat} {w:Int} (he:((a0.set (((0:Nat):Int)+(a:Int)).toNat a0[p]!).set (((0:Nat):Int)+(p:Int)).toNat a0[a]!)=d.toList) (v:Int):
 kU C q a0 (a:Int) (p:Int) a0[p]! a0[a]! w v=iy C q a0 (a:Int) d.toList w v:=by simp only[kU,iy,he]
theorem aay (hC:∀ x y,C x y=some (f x y)) (hq:∀ x y,q (f x y)=lt x y) (a0:List α) (a:Nat) {n:Nat}:∀ (m i j:Nat) (d:Array α) (k:Nat),j+1 - i<=m->1<=i->i<=j+2->a0.length=d.size->d.size < 1152921504606846976->a < d.size->j < d.size->d.size < n->m < k->
 iter (jD C q n a0 (a:Int)) k ((i:Int),(j:Int),d.toList)=some (((partLoop lt a i j d).1:Int),(partLoop lt a i j d).2.toList)∧(partLoop lt a i j d).2.size=d.size∧(partLoop lt a i j d).1<=j:=by
 intro m
 induction m with
 |zero=>
  intro i j d k hm h1 hij h0 hs ha hj hn hk;obtain⟨k,rfl⟩:∃ m,k=m+1:=⟨k - 1,by omega⟩;have s2:=pu (fun x=>lt x d[a]!) d j (acM hC hq a0 d h0 hs ha hj) (j+1) i n (by omega) hij (by omega);have u1:=scanUp_ge (fun x=>lt x d[a]!) d j i;have u2:=scanDown_le (fun x=>!lt x d[a]!) d (scanUp (fun x=>lt x d[a]!) d j i) j;have s3:=jE (fun x=>!lt x d[a]!) d (scanUp (fun x=>lt x d[a]!) d j i) (by omega) (acN hC hq a0 d h0 hs ha) j n hj (by omega);rw[partLoop_eq];have hc:scanUp (fun x=>lt x d[a]!) d j i>scanDown (fun x=>!lt x d[a]!) d (scanUp (fun x=>lt x d[a]!) d j i) j:=by omega
  have c:decide (((scanUp (fun x=>lt x d[a]!) d j i:Nat):Int)>((scanDown (fun x=>!lt x d[a]!) d (scanUp (fun x=>lt x d[a]!) d j i) j:Nat):Int))=true:=by simp;omega
  rw[if_pos hc];exact⟨aJ (by simp only[jD,s2,bind_some,s3,c,cond_true]),rfl,u2⟩
 |succ m ih=>
  intro i j d k hm h1 hij h0 hs ha hj hn hk;obtain⟨k,rfl⟩:∃ m,k=m+1:=⟨k - 1,by omega⟩;have s2:=pu (fun x=>lt x d[a]!) d j (acM hC hq a0 d h0 hs ha hj) (j+1) i n (by omega) hij (by omega);have u1:=scanUp_ge (fun x=>lt x d[a]!) d j i;have u2:=scanDown_le (fun x=>!lt x d[a]!) d (scanUp (fun x=>lt x d[a]!) d j i) j;have s3:=jE (fun x=>!lt x d[a]!) d (scanUp (fun x=>lt x d[a]!) d j i) (by omega) (acN hC hq a0 d h0 hs ha) j n hj (by omega);rw[partLoop_eq];generalize scanUp (fun x=>lt x d[a]!) d j i=I at*;generalize scanDown (fun x=>!lt x d[a]!) d I j=J at*;by_cases hc:I>J
  ·have c:decide (((I:Nat):Int)>((J:Nat):Int))=true:=(by simp;omega);rw[if_pos hc];exact⟨aJ (by simp only[jD,s2,bind_some,s3,c,cond_true]),rfl,u2⟩
  ·have c:decide (((I:Nat):Int)>((J:Nat):Int))=false:=(by simp;omega);rw[if_neg hc];have gI:I < d.size:=(by omega);have gJ:J < d.size:=(by omega);have s:jD C q n a0 (a:Int) ((i:Int),(j:Int),d.toList)=some (.inl (((I+1:Nat):Int),((J - 1:Nat):Int),(swp d I J).toList)):=by
    simp only[jD,s2,bind_some,s3,c,cond_false,fU (show J < a0.length by omega),fU (show I < a0.length by omega),cond_true,bW gJ,bW gI,yH,AL gJ,AO];rw[au (by omega),w1 (by omega) (by omega)]
   have zz:(swp d I J).size=d.size:=size_swp _ _ _;obtain⟨g1,g2,g3⟩:=ih (I+1) (J - 1) (swp d I J) k (by omega) (by omega) (by omega) (by rw[zz];exact h0) (by rw[zz];exact hs) (by rw[zz];exact ha) (by rw[zz];omega) (by rw[zz];exact hn) (by omega);exact⟨by rw[aV s];exact g1,by rw[g2,zz],by omega⟩
theorem Oa (hC:∀ x y,C x y=some (f x y)) (hq:∀ x y,q (f x y)=lt x y) {d:Array α} {a b p n:Nat} (hap:a<=p) (hpb:p < b) (hb:b<=d.size) (hs:d.size < 1152921504606846976) (hn:d.size < n):
 nY C q n d.toList (a:Int) (b:Int) (p:Int)=some (((partition lt d a b p).1:Int),(partition lt d a b p).2.1,(partition lt d a b p).2.2.toList)∧(partition lt d a b p).2.2.size=d.size:=by
 have ga:a < d.size:=by omega
 have gp:p < d.size:=by omega
 have zz:(swp d a p).size=d.size:=size_swp _ _ _;have ll:d.toList.length=d.size:=by simp
 have ea:d.toList[a]! =d[a]! :=by rw[getElem!_pos d a ga,getElem!_pos d.toList a (by omega)];simp
 have ep:d.toList[p]! =d[p]! :=by rw[getElem!_pos d p gp,getElem!_pos d.toList p (by omega)];simp
 have he:((d.toList.set (((0:Nat):Int)+(a:Int)).toNat d.toList[p]!).set (((0:Nat):Int)+(p:Int)).toNat d.toList[a]!)=(swp d a p).toList:=by rw[ea,ep,yH,yH];rfl
 have h0:d.toList.length=(swp d a p).size:=by rw[zz,ll]
 have s1:iter (kT C q d.toList (a:Int) (b:Int) (p:Int) d[p]! d[a]!) n ((a+1:Nat):Int)=some ((scanUp (fun x=>lt x (swp d a p)[a]!) (swp d a p) (b - 1) (a+1):Nat):Int):=by
  rw[<- ea,<- ep,show kT C q d.toList (a:Int) (b:Int) (p:Int) d.toList[p]! d.toList[a]! =iw C q d.toList (a:Int) ((b - 1:Nat):Int) (swp d a p).toList from funext fun v=>adq d.toList (swp d a p) (by omega) (by rw[zz];exact hs) (by rw[zz];exact hb) he v];exact pu (fun x=>lt x (swp d a p)[a]!) (swp d a p) (b - 1) (acM hC hq d.toList (swp d a p) h0 (by rw[zz];exact hs) (by rw[zz];exact ga) (by rw[zz];omega)) (b - 1+1) (a+1) n (by omega) (by omega) (by omega)
 have u1:=scanUp_ge (fun x=>lt x (swp d a p)[a]!) (swp d a p) (b - 1) (a+1);have s2:iter (kU C q d.toList (a:Int) (p:Int) d[p]! d[a]! ((scanUp (fun x=>lt x (swp d a p)[a]!) (swp d a p) (b - 1) (a+1):Nat):Int)) n ((b - 1:Nat):Int)=some ((scanDown (fun x=>!lt x (swp d a p)[a]!) (swp d a p) (scanUp (fun x=>lt x (swp d a p)[a]!) (swp d a p) (b - 1) (a+1)) (b - 1):Nat):Int):=by
  rw[<- ea,<- ep,show kU C q d.toList (a:Int) (p:Int) d.toList[p]! d.toList[a]! ((scanUp (fun x=>lt x (swp d a p)[a]!) (swp d a p) (b - 1) (a+1):Nat):Int)=iy C q d.toList (a:Int) (swp d a p).toList ((scanUp (fun x=>lt x (swp d a p)[a]!) (swp d a p) (b - 1) (a+1):Nat):Int)from funext fun v=>adr d.toList (swp d a p) he v];exact jE (fun x=>!lt x (swp d a p)[a]!) (swp d a p) _ (by omega) (acN hC hq d.toList (swp d a p) h0 (by rw[zz];exact hs) (by rw[zz];exact ga)) (b - 1) n (by rw[zz];omega) (by omega)
 have u2:=scanDown_le (fun x=>!lt x (swp d a p)[a]!) (swp d a p) (scanUp (fun x=>lt x (swp d a p)[a]!) (swp d a p) (b - 1) (a+1)) (b - 1);unfold nY partition;simp only[fU (show p < d.toList.length by omega),fU (show a < d.toList.length by omega),cond_true,bW gp,bW ga,bind_some,yH,AL gp,AO];rw[au (by omega),w1 (by omega) (by omega),s1];simp only[bind_some];rw[s2];simp only[bind_some];generalize swp d a p=D at*;generalize scanUp (fun x=>lt x D[a]!) D (b - 1) (a+1)=I at*;generalize scanDown (fun x=>!lt x D[a]!) D I (b - 1)=J at*;have gJ:J < D.size:=by omega
 have gA':a < D.size:=by omega
 by_cases hc:I>J
 ·have c:decide (((I:Nat):Int)>((J:Nat):Int))=true:=by simp;omega
  rw[if_pos hc];refine⟨?_,by simp[size_swp,zz]⟩;simp only[c,cond_true,fU (show J < d.toList.length by omega),bW gJ,bW gA',bind_some,yH,AL gA',AO]
 ·have c:decide (((I:Nat):Int)>((J:Nat):Int))=false:=by simp;omega
  rw[if_neg hc];have gI:I < D.size:=by omega
  have zD:(swp D I J).size=D.size:=size_swp _ _ _;obtain⟨g1,g2,g3⟩:=aay (n:=n) hC hq d.toList a d.size (I+1) (J - 1) (swp D I J) n (by omega) (by omega) (by omega) (by omega) (by omega) (by omega) (by omega) (by omega) hn;generalize partLoop lt a (I+1) (J - 1) (swp D I J)=L at*;have gL:L.1 < L.2.size:=by omega
  have gLa:a < L.2.size:=by omega
  refine⟨?_,by simp only[size_swp];omega⟩;simp only[c,cond_false,cond_true,fU (show J < d.toList.length by omega),fU (show I < d.toList.length by omega),bW gJ,bW gI,bind_some,yH,AL gJ,AO];rw[au (by omega),w1 (by omega) (by omega),g1];simp only[bind_some,cond_true,fU (show L.1 < d.toList.length by omega),bW gL,bW gLa,yH,AL gLa,AO]
end
section
variable {α R:Type} [Inhabited α]
def PE (C:α->α->Option R) (q:R->Bool) (n:Nat) (rc:((List α))->(Int)->(Int)->(Int)->Option (List α)) (a0:List α) (v1 v2 v7:Int) (v4 v5:Bool) (v9:Int) (v13:List α):Option ((Int×Int×Int×Bool×Bool×(List α)) ⊕ (Unit ⊕ (List α))):=
 ((bif (decide (v1>(0:Int)))then bif inb (i64.wrap (v1 - 1)) a0.length then (at? v13 ((0:Nat)+(i64.wrap (v1 - 1)):Int)).bind fun x1=>bif inb v9 a0.length then (at? v13 ((0:Nat)+v9:Int)).bind fun x2=>(C x1 x2).bind fun r7=>some (!(q r7))else none else none else some false):Option (Bool)).bind fun v14=>(bif v14 then bif eqL a0.length v13.length then (gq C q n v13 v1 v2 v9).bind fun r8=>some (.inl (r8.1,v2,v7,v4,v5,r8.2))else none else bif eqL a0.length v13.length then (nY C q n v13 v1 v2 v9).bind fun r9=>bif 8 != 0 then (bif (decide ((i64.wrap (r9.1 - v1)) < ((i64.wrap (v2 - r9.1)):Int)))then bif eqL a0.length r9.2.2.length then (rc r9.2.2 v1 r9.1 v7).bind fun r10=>some (.inl ((i64.wrap (r9.1+1)),v2,v7,(decide ((i64.wrap (r9.1 - v1))>=((i64.wrap (Int.tdiv (i64.wrap (v2 - v1)) 8)):Int))),r9.2.1,r10))else none else bif eqL a0.length r9.2.2.length then (rc r9.2.2 (i64.wrap (r9.1+1)) v2 v7).bind fun r11=>some (.inl (v1,r9.1,v7,(decide ((i64.wrap (v2 - r9.1))>=((i64.wrap (Int.tdiv (i64.wrap (v2 - v1)) 8)):Int))),r9.2.1,r11))else none)else none else none)
variable {C:α->α->Option R} {q:R->Bool} {f:α->α->R} {lt:α->α->Bool} {npt:Int->Option Int} {xsh:Int->Option (Int×Int)}
theorem Fx (d:Array α) {a b:Nat} (hab:a<=b) (hb:b<=d.size):(reverseRange d a b).size=d.size:=(reverseRange_holds d a b hab hb).1
theorem DT (d:Array α) {a b:Nat} (hab:a<=b) (hb:b<=d.size):(breakPatterns d a b).size=d.size:=(breakPatterns_holds d a b hab hb).1
theorem Ce (hC:∀ x y,C x y=some (f x y)) (hq:∀ x y,q (f x y)=lt x y) (hnp:Pz npt) (hx:Mq xsh) {n:Nat} {rc:((List α))->(Int)->(Int)->(Int)->Option (List α)} {a0:List α} {d d1 d2:Array α} {a b limit limit' pivot:Nat} {wb wp:Bool} {c:Nat×Hint} {hint:Hint} {pi:Array α×Bool}
 (h0:a0.length=d.size) (hb:b<=d.size) (hs:d.size < 1152921504606846976) (hn:d.size < n) (h12:¬ b - a<=12) (hl:¬ limit=0) (hlm:limit < 1152921504606846976)
 (e1:d1=if !wb then breakPatterns d a b else d) (el:limit'=if !wb then limit - 1 else limit) (ec:c=choosePivot lt d1 a b) (e2:d2=if c.2= .decreasing then reverseRange d1 a b else d1)
 (ep:pivot=if c.2= .decreasing then (b - 1) - (c.1 - a)else c.1) (eh:hint=if c.2= .decreasing then Hint.increasing else c.2)
 (ei:pi=if wb&&wp&&decide (hint= .increasing)then partialInsertionSort lt d2 a b else (d2,false)):
 lY C q npt xsh n rc a0 ((a:Int),(b:Int),(limit:Int),wb,wp,d.toList)=if pi.2 then some (.inr (.inr pi.1.toList))else PE C q n rc a0 (a:Int) (b:Int) (limit':Int) wb wp (pivot:Int) pi.1.toList:=by
 have E1:i64.wrap ((b:Int) - (a:Int))=((b - a:Nat):Int):=AP (by omega) (by omega);have c12:decide (((b - a:Nat):Int)<=12)=false:=by simp;omega
 have cl:((limit:Int)==0)=false:=by rw[beq_eq_false_iff_ne];omega
 have s1:d1.size=d.size:=by
  rw[e1];split
  ·exact DT d (by omega) hb
  ·rfl
 have s2:d2.size=d.size:=by
  rw[e2];split
  ·rw[Fx d1 (by omega) (by omega),s1]
  ·exact s1
 have ch1:((bif (!wb)then bif eqL a0.length d.toList.length then (iL npt xsh n d.toList (a:Int) (b:Int)).bind fun r3=>some ((i64.wrap ((limit:Int) - 1)),r3)else none else some ((limit:Int),d.toList)):Option (Int×(List α)))=some ((limit':Int),d1.toList):=by
  rw[e1,el];cases wb with
  |true=>rfl
  |false=>
   rw[Mk (by simpa using h0),Fw hnp hx (by omega) hb hs (by omega),w1 (by omega) (by omega)];rfl
 have hsub:(sub d1.toList 0 a0.length)=d1.toList:=by rw[show a0.length=d1.toList.length by rw[h0,<- s1];simp,bS]
 have hcr:=choosePivot_holds lt d1 a b (by omega);rw[<- ec]at hcr;have ch2:=Jm hC hq (d:=d1) (a:=a) (b:=b) (by omega) (by omega) (by omega);rw[<- ec]at ch2;have ch3:((bif ((I5 c.2)==(2:Int))then bif eqL a0.length d1.toList.length then (jC n d1.toList (a:Int) (b:Int)).bind fun r5=>some ((i64.wrap ((i64.wrap ((b:Int) - 1)) - (i64.wrap ((c.1:Int) - (a:Int))))),(1:Int),r5)else none else some ((c.1:Int),I5 c.2,d1.toList)):Option (Int×Int×(List α)))=some ((pivot:Int),I5 hint,d2.toList):=by
  rw[e2,ep,eh];cases hh:c.2 with
  |decreasing=>
   rw[Mk (by rw[h0,<- s1];simp),He (by omega) (by omega) (by omega) (by omega),w1 (by omega) (by omega),AP hcr.1 (by omega),AP (by omega) (by omega)];rfl
  |increasing=>rfl
  |unknown=>rfl
 have ch4:(((bif wb then (bif wp then some ((I5 hint)==(1:Int))else some false)else some false):Option (Bool)).bind fun v12=>(bif v12 then bif eqL a0.length d2.toList.length then (cu C q n d2.toList (a:Int) (b:Int)).bind fun r6=>(bif r6.1 then ((some r6.2).map fun a=> .inr (.inr a)).map .inr else some (.inl r6.2))else none else some (.inl d2.toList)))=(some (if pi.2 then .inr (.inr (.inr pi.1.toList))else .inl pi.1.toList):Option (List α ⊕ ((Int×Int×Int×Bool×Bool×(List α)) ⊕ (Unit ⊕ (List α))))):=by
  rw[ei];have hh:((I5 hint)==(1:Int))=decide (hint= .increasing):=by cases hint<;>rfl
  have g:=vC hC hq (d:=d2) (a:=a) (b:=b) (n:=n) (by omega) (by omega) (by omega) (by omega) (by omega);cases wb with
  |false=>rfl
  |true=>
   cases wp with
   |false=>rfl
   |true=>
    simp only[cond_true,bind_some,hh,Bool.true_and];cases decide (hint= .increasing)with
    |false=>rfl
    |true=>
     rw[Mk (by rw[h0,<- s2];simp),g.1];simp only[cond_true,bind_some,if_true];cases (partialInsertionSort lt d2 a b).2<;>rfl
 have hel:eqL d1.toList.length a0.length=true:=Mk (by rw[h0,<- s1];simp);simp only[lY,E1,c12,cond_false,cl,ch1,bind_some,hsub,hel,cond_true,ch2,ch3];rw[ch4];cases pi.2 with
 |true=>rfl
 |false=>simp only[PE,E1,Bool.false_eq_true,if_false,iH]
theorem aaz (hC:∀ x y,C x y=some (f x y)) (hq:∀ x y,q (f x y)=lt x y) {n:Nat} {rc:((List α))->(Int)->(Int)->(Int)->Option (List α)} {a0:List α} {d3 d4:Array α} {a b limit' pivot mid:Nat} {wb wp:Bool}
 (h0:a0.length=d3.size) (hb:b<=d3.size) (hs:d3.size < 1152921504606846976) (hn:d3.size < n) (hp1:a<=pivot) (hp2:pivot < b) (hc:(decide (a>0)&&!lt d3[a - 1]! d3[pivot]!)=true) (hx:partitionEqual lt d3 a b pivot=(mid,d4)):
 PE C q n rc a0 (a:Int) (b:Int) (limit':Int) wb wp (pivot:Int) d3.toList=some (.inl ((mid:Int),(b:Int),(limit':Int),wb,wp,d4.toList)):=by
 rw[and_eq_true,decide_eq_true_eq]at hc;have c0:decide ((a:Int)>0)=true:=by simp;omega
 have ga:a - 1 < d3.size:=by omega
 have gp:pivot < d3.size:=by omega
 have g:=(DR hC hq (n:=n) hp1 hp2 hb hs hn).1;rw[hx]at g;have hc2:=hc.2;simp only[PE,c0,cond_true,w1 (show 0 < a by omega) (show a<=9223372036854775807 by omega),fU (show a - 1 < a0.length by omega),bW ga,bind_some,fU (show pivot < a0.length by omega),bW gp,hC,hq,hc2,g];rw[Mk (by simpa using h0)];rfl
theorem Ms (hC:∀ x y,C x y=some (f x y)) (hq:∀ x y,q (f x y)=lt x y) {n:Nat} {rc:((List α))->(Int)->(Int)->(Int)->Option (List α)} {a0:List α} {d3 d4:Array α} {a b limit' pivot mid:Nat} {wb wp ap:Bool}
 (h0:a0.length=d3.size) (hb:b<=d3.size) (hs:d3.size < 1152921504606846976) (hn:d3.size < n) (hp1:a<=pivot) (hp2:pivot < b) (hc:(decide (a>0)&&!lt d3[a - 1]! d3[pivot]!)=false) (hx:partition lt d3 a b pivot=(mid,ap,d4)) (hm1:a<=mid) (hm2:mid < b):
 PE C q n rc a0 (a:Int) (b:Int) (limit':Int) wb wp (pivot:Int) d3.toList=
  if mid - a < b - mid then (rc d4.toList (a:Int) (mid:Int) (limit':Int)).bind fun r=>some (.inl (((mid+1:Nat):Int),(b:Int),(limit':Int),decide (mid - a>=(b - a)/8),ap,r))
  else (rc d4.toList ((mid+1:Nat):Int) (b:Int) (limit':Int)).bind fun r=>some (.inl ((a:Int),(mid:Int),(limit':Int),decide (b - mid>=(b - a)/8),ap,r)):=by
 have gp:pivot < d3.size:=by omega
 have chk:((bif (decide ((a:Int)>(0:Int)))then bif inb (i64.wrap ((a:Int) - 1)) a0.length then (at? d3.toList ((0:Nat)+(i64.wrap ((a:Int) - 1)):Int)).bind fun x1=>bif inb (pivot:Int) a0.length then (at? d3.toList ((0:Nat)+(pivot:Int):Int)).bind fun x2=>(C x1 x2).bind fun r7=>some (!(q r7))else none else none else some false):Option (Bool))=some false:=by
  by_cases ha:a>0
  ·have c0:decide ((a:Int)>0)=true:=(by simp;omega);have ga:a - 1 < d3.size:=(by omega);have hc2:(!lt d3[a - 1]! d3[pivot]!)=false:=(by simpa[ha]using hc);simp only[c0,cond_true,w1 (show 0 < a by omega) (show a<=9223372036854775807 by omega),fU (show a - 1 < a0.length by omega),bW ga,bind_some,fU (show pivot < a0.length by omega),bW gp,hC,hq,hc2]
  ·have c0:decide ((a:Int)>0)=false:=(by simp;omega);simp only[c0,cond_false]
 have g:=Oa hC hq (n:=n) hp1 hp2 hb hs hn;rw[hx]at g;obtain⟨g,gz⟩:=g;simp only[]at g gz;have E1:i64.wrap ((b:Int) - (a:Int))=((b - a:Nat):Int):=AP (by omega) (by omega);have E2:i64.wrap ((mid:Int) - (a:Int))=((mid - a:Nat):Int):=AP (by omega) (by omega);have E3:i64.wrap ((b:Int) - (mid:Int))=((b - mid:Nat):Int):=AP (by omega) (by omega);have E4:i64.wrap (Int.tdiv ((b - a:Nat):Int) 8)=(((b - a)/8:Nat):Int):=by rw[show (8:Int)=((8:Nat):Int)from rfl,Fv,jv (by omega)]
 have E5:i64.wrap ((mid:Int)+1)=((mid+1:Nat):Int):=au (by omega);have D1:decide (((mid - a:Nat):Int)>=(((b - a)/8:Nat):Int))=decide (mid - a>=(b - a)/8):=by rw[decide_eq_decide];omega
 have D2:decide (((b - mid:Nat):Int)>=(((b - a)/8:Nat):Int))=decide (b - mid>=(b - a)/8):=by rw[decide_eq_decide];omega
 have L1:eqL a0.length d3.toList.length=true:=Mk (by simpa using h0);have L2:eqL a0.length d4.toList.length=true:=Mk (by rw[h0,<- gz];simp);have eight:(8 != 0)=true:=rfl;unfold PE;rw[chk];simp only[bind_some,cond_false,L1,cond_true,g,eight,E1,E2,E3,E4,E5,D1,D2,L2];by_cases hlt:mid - a < b - mid
 ·have c:decide (((mid - a:Nat):Int) < ((b - mid:Nat):Int))=true:=by simp;omega
  rw[c,if_pos hlt];rfl
 ·have c:decide (((mid - a:Nat):Int) < ((b - mid:Nat):Int))=false:=by simp;omega
  rw[c,if_neg hlt];rfl
theorem YT (hS:SWO lt) (hC:∀ x y,C x y=some (f x y)) (hq:∀ x y,q (f x y)=lt x y) (hnp:Pz npt) (hx:Mq xsh) {n:Nat} {rc:((List α))->(Int)->(Int)->(Int)->Option (List α)} {a0:List α} (hs:a0.length < 1152921504606846976) (hn:a0.length < n) (M:Nat)
 (hrc:∀ (d':Array α) (a' b' l':Nat),d'.size=a0.length->a'<=b'->b'<=d'.size->Below lt a' b' d'->b' - a' < M->l' < 1152921504606846976->rc d'.toList (a':Int) (b':Int) (l':Int)=some (pdq lt d' a' b' l' true true).toList)
 (d:Array α) (a b limit:Nat) (wb wp:Bool):a<=b->b<=d.size->d.size=a0.length->Below lt a b d->b - a<=M->limit < 1152921504606846976->∀ k,b - a < k->
 iter (lY C q npt xsh n rc a0) k ((a:Int),(b:Int),(limit:Int),wb,wp,d.toList)=some (.inr (pdq lt d a b limit wb wp).toList):=by
 fun_induction pdq lt d a b limit wb wp
 case case1 d a b limit wb wp h12=>
  intro hab hb h0 hB hM hlm k hk;obtain⟨k,rfl⟩:∃ m,k=m+1:=⟨k - 1,by omega⟩;have E1:i64.wrap ((b:Int) - (a:Int))=((b - a:Nat):Int):=AP (by omega) (by omega);have c12:decide (((b - a:Nat):Int)<=12)=true:=by simp;omega
  refine aJ ?_;simp only[lY,E1,c12,cond_true,Fs hC hq (show d.size < 4611686018427387904 by omega) hb hab (show d.size < n by omega),bind_some,Option.map_some];rw[Mk (by rw[<- h0];simp)];rfl
 case case2 d a b wb wp h12=>
  intro hab hb h0 hB hM hlm k hk;obtain⟨k,rfl⟩:∃ m,k=m+1:=⟨k - 1,by omega⟩;have E1:i64.wrap ((b:Int) - (a:Int))=((b - a:Nat):Int):=AP (by omega) (by omega);have c12:decide (((b - a:Nat):Int)<=12)=false:=by simp;omega
  refine aJ ?_;have z:(((0:Nat):Int)==0)=true:=rfl;simp only[lY,E1,c12,cond_false,z,cond_true,Rb hC hq (show d.size < 1152921504606846976 by omega) hb (show a < b by omega) (show d.size < n by omega),bind_some,Option.map_some];rw[Mk (by rw[<- h0];simp)];rfl
 case case3 d a b limit wb wp h12 hl d1 c d2 hint pi hpi2=>
  intro hab hb h0 hB hM hlm k hk;obtain⟨k,rfl⟩:∃ m,k=m+1:=⟨k - 1,by omega⟩;have pre:=Ce hC hq hnp hx (n:=n) (rc:=rc) (a0:=a0) (d:=d) (d1:=d1) (d2:=d2) (a:=a) (b:=b) (limit:=limit) (wb:=wb) (wp:=wp) (c:=c) (hint:=hint) (pi:=pi) h0.symm hb (by omega) (by omega) h12 hl hlm rfl rfl rfl rfl rfl rfl rfl;refine aJ ?_;rw[pre,if_pos hpi2]
 case case4 d a b limit0 wb wp h12 hl d1 limit c d2 pivot hint pi hpi2 d3 hc mid d4 hx4 hg ih1=>
  intro hab hb h0 hB hM hlm k hk;obtain⟨k,rfl⟩:∃ m,k=m+1:=⟨k - 1,by omega⟩;have s1:PermIn a b d d1:=step_break d hab hb _;have b1:b<=d1.size:=by rw[s1.1];exact hb
  have s2:PermIn a b d1 d2:=step_reverse reverseRange_holds d1 hab b1 _;have b2:b<=d2.size:=by rw[s2.1];exact b1
  have B2:Below lt a b d2:=(hB.perm hb s1).perm b1 s2;have s3:=step_partial partialInsertionSort_holds hS d2 (a:=a) (b:=b) (by omega) b2 B2 ((wb&&wp&&decide (hint=Hint.increasing))=true);have s3':PermIn a b d2 d3:=s3.1;have b3:b<=d3.size:=by rw[s3'.1];exact b2
  have B3:Below lt a b d3:=B2.perm b2 s3';have P3:PermIn a b d d3:=permIn_trans _ _ _ a b (permIn_trans _ _ _ a b s1 s2) s3';have hc0:=choosePivot_holds lt d1 a b (by omega);have hpv:a<=pivot∧pivot < b:=pivot_range hc0.1 hc0.2 _;have hc':=hc;simp only[and_eq_true,decide_eq_true_eq,Bool.not_eq_true']at hc';obtain⟨hm1,hm2,hs4,hB4,hfin⟩:=round_eq hS (partitionEqual_holds lt) hc'.1 hpv.1 hpv.2 b3 B3 hc'.2 hx4;have pre:=Ce hC hq hnp hx (n:=n) (rc:=rc) (a0:=a0) (d:=d) (d1:=d1) (d2:=d2) (a:=a) (b:=b) (limit:=limit0) (limit':=limit) (pivot:=pivot) (wb:=wb) (wp:=wp) (c:=c) (hint:=hint) (pi:=pi) h0.symm hb (by omega) (by omega) h12 hl hlm rfl rfl rfl rfl rfl rfl rfl;have z3:d3.size=a0.length:=by rw[P3.1];exact h0
  rw[if_neg hpi2,aaz hC hq (a0:=a0) (d3:=d3) (d4:=d4) (mid:=mid) z3.symm b3 (by omega) (by omega) hpv.1 hpv.2 hc hx4]at pre;rw[aV pre];have ll:limit < 1152921504606846976:=by
   have:limit<=limit0:=(by show (dite _ _ _)<=_;split<;>omega);omega
  exact ih1 hm2 (by rw[hs4];exact b3) (by rw[hs4];exact z3) hB4 (by omega) ll k (by omega)
 case case5 d a b limit wb wp h12 hl d1 c d2 pivot hint pi hpi2 d3 hc mid d4 hx4 hg=>
  intro hab hb h0 hB hM hlm k hk;have s1:PermIn a b d d1:=step_break d hab hb _;have b1:b<=d1.size:=by rw[s1.1];exact hb
  have s2:PermIn a b d1 d2:=step_reverse reverseRange_holds d1 hab b1 _;have b2:b<=d2.size:=by rw[s2.1];exact b1
  have B2:Below lt a b d2:=(hB.perm hb s1).perm b1 s2;have s3:=step_partial partialInsertionSort_holds hS d2 (a:=a) (b:=b) (by omega) b2 B2 ((wb&&wp&&decide (hint=Hint.increasing))=true);have s3':PermIn a b d2 d3:=s3.1;have b3:b<=d3.size:=by rw[s3'.1];exact b2
  have B3:Below lt a b d3:=B2.perm b2 s3';have hc0:=choosePivot_holds lt d1 a b (by omega);have hpv:a<=pivot∧pivot < b:=pivot_range hc0.1 hc0.2 _;simp only[and_eq_true,decide_eq_true_eq,Bool.not_eq_true']at hc;obtain⟨g1,g2,_⟩:=round_eq hS (partitionEqual_holds lt) hc.1 hpv.1 hpv.2 b3 B3 hc.2 hx4;exact absurd ⟨g1,g2⟩ hg
 case case6 d a b limit0 wb wp h12 hl d1 limit c d2 pivot hint pi hpi2 d3 hc mid ap d4 hx4 hg hlt ih3 ih2 ih1=>
  intro hab hb h0 hB hM hlm k hk;obtain⟨k,rfl⟩:∃ m,k=m+1:=⟨k - 1,by omega⟩;have s1:PermIn a b d d1:=step_break d hab hb _;have b1:b<=d1.size:=by rw[s1.1];exact hb
  have s2:PermIn a b d1 d2:=step_reverse reverseRange_holds d1 hab b1 _;have b2:b<=d2.size:=by rw[s2.1];exact b1
  have B2:Below lt a b d2:=(hB.perm hb s1).perm b1 s2;have s3:=step_partial partialInsertionSort_holds hS d2 (a:=a) (b:=b) (by omega) b2 B2 ((wb&&wp&&decide (hint=Hint.increasing))=true);have s3':PermIn a b d2 d3:=s3.1;have b3:b<=d3.size:=by rw[s3'.1];exact b2
  have B3:Below lt a b d3:=B2.perm b2 s3';have P3:PermIn a b d d3:=permIn_trans _ _ _ a b (permIn_trans _ _ _ a b s1 s2) s3';have hc0:=choosePivot_holds lt d1 a b (by omega);have hpv:a<=pivot∧pivot < b:=pivot_range hc0.1 hc0.2 _;obtain⟨g1,g2,hs4,hBa,hBr,hleft,_⟩:=round_part hS (partition_holds lt) hpv.1 hpv.2 b3 B3 hx4;have pre:=Ce hC hq hnp hx (n:=n) (rc:=rc) (a0:=a0) (d:=d) (d1:=d1) (d2:=d2) (a:=a) (b:=b) (limit:=limit0) (limit':=limit) (pivot:=pivot) (wb:=wb) (wp:=wp) (c:=c) (hint:=hint) (pi:=pi) h0.symm hb (by omega) (by omega) h12 hl hlm rfl rfl rfl rfl rfl rfl rfl;have z3:d3.size=a0.length:=by rw[P3.1];exact h0
  have ll:limit < 1152921504606846976:=by
   have:limit<=limit0:=(by show (dite _ _ _)<=_;split<;>omega);omega
  have hrc1:=hrc d4 a mid limit (by rw[hs4];exact z3) g1 (by rw[hs4];omega) hBa (by omega) ll;have hp4:=pdq_sorts lt hS d4 a mid limit true true g1 (by rw[hs4];omega) hBa;obtain⟨hBL,_⟩:=hleft _ hp4.1 hp4.2;rw[if_neg hpi2,Ms hC hq (a0:=a0) (d3:=d3) (d4:=d4) (mid:=mid) (ap:=ap) z3.symm b3 (by omega) (by omega) hpv.1 hpv.2 (by simpa using hc) hx4 g1 g2,if_pos hlt,hrc1,bind_some]at pre;rw[aV pre];exact ih1 (by omega) (by rw[hp4.1.1,hs4];exact b3) (by rw[hp4.1.1,hs4];exact z3) hBL (by omega) ll k (by omega)
 case case7 d a b limit0 wb wp h12 hl d1 limit c d2 pivot hint pi hpi2 d3 hc mid ap d4 hx4 hg hlt ih3 ih2 ih1=>
  intro hab hb h0 hB hM hlm k hk;obtain⟨k,rfl⟩:∃ m,k=m+1:=⟨k - 1,by omega⟩;have s1:PermIn a b d d1:=step_break d hab hb _;have b1:b<=d1.size:=by rw[s1.1];exact hb
  have s2:PermIn a b d1 d2:=step_reverse reverseRange_holds d1 hab b1 _;have b2:b<=d2.size:=by rw[s2.1];exact b1
  have B2:Below lt a b d2:=(hB.perm hb s1).perm b1 s2;have s3:=step_partial partialInsertionSort_holds hS d2 (a:=a) (b:=b) (by omega) b2 B2 ((wb&&wp&&decide (hint=Hint.increasing))=true);have s3':PermIn a b d2 d3:=s3.1;have b3:b<=d3.size:=by rw[s3'.1];exact b2
  have B3:Below lt a b d3:=B2.perm b2 s3';have P3:PermIn a b d d3:=permIn_trans _ _ _ a b (permIn_trans _ _ _ a b s1 s2) s3';have hc0:=choosePivot_holds lt d1 a b (by omega);have hpv:a<=pivot∧pivot < b:=pivot_range hc0.1 hc0.2 _;obtain⟨g1,g2,hs4,hBa,hBr,_,hright⟩:=round_part hS (partition_holds lt) hpv.1 hpv.2 b3 B3 hx4;have pre:=Ce hC hq hnp hx (n:=n) (rc:=rc) (a0:=a0) (d:=d) (d1:=d1) (d2:=d2) (a:=a) (b:=b) (limit:=limit0) (limit':=limit) (pivot:=pivot) (wb:=wb) (wp:=wp) (c:=c) (hint:=hint) (pi:=pi) h0.symm hb (by omega) (by omega) h12 hl hlm rfl rfl rfl rfl rfl rfl rfl;have z3:d3.size=a0.length:=by rw[P3.1];exact h0
  have ll:limit < 1152921504606846976:=by
   have:limit<=limit0:=(by show (dite _ _ _)<=_;split<;>omega);omega
  have hrc1:=hrc d4 (mid+1) b limit (by rw[hs4];exact z3) (by omega) (by rw[hs4];exact b3) hBr (by omega) ll;have hp4:=pdq_sorts lt hS d4 (mid+1) b limit true true (by omega) (by rw[hs4];exact b3) hBr;obtain⟨hBL,_⟩:=hright _ hp4.1 hp4.2;rw[if_neg hpi2,Ms hC hq (a0:=a0) (d3:=d3) (d4:=d4) (mid:=mid) (ap:=ap) z3.symm b3 (by omega) (by omega) hpv.1 hpv.2 (by simpa using hc) hx4 g1 g2,if_neg hlt,hrc1,bind_some]at pre;rw[aV pre];exact ih1 g1 (by rw[hp4.1.1,hs4];omega) (by rw[hp4.1.1,hs4];exact z3) hBL (by omega) ll k (by omega)
 case case8 d a b limit wb wp h12 hl d1 c d2 pivot hint pi hpi2 d3 hc mid ap d4 hx4 hg=>
  intro hab hb h0 hB hM hlm k hk;have s1:PermIn a b d d1:=step_break d hab hb _;have b1:b<=d1.size:=by rw[s1.1];exact hb
  have s2:PermIn a b d1 d2:=step_reverse reverseRange_holds d1 hab b1 _;have b2:b<=d2.size:=by rw[s2.1];exact b1
  have B2:Below lt a b d2:=(hB.perm hb s1).perm b1 s2;have s3:=step_partial partialInsertionSort_holds hS d2 (a:=a) (b:=b) (by omega) b2 B2 ((wb&&wp&&decide (hint=Hint.increasing))=true);have s3':PermIn a b d2 d3:=s3.1;have b3:b<=d3.size:=by rw[s3'.1];exact b2
  have B3:Below lt a b d3:=B2.perm b2 s3';have hc0:=choosePivot_holds lt d1 a b (by omega);have hpv:a<=pivot∧pivot < b:=pivot_range hc0.1 hc0.2 _;obtain⟨g1,g2,_⟩:=round_part hS (partition_holds lt) hpv.1 hpv.2 b3 B3 hx4;exact absurd ⟨g1,g2⟩ hg
theorem TN (hS:SWO lt) (hC:∀ x y,C x y=some (f x y)) (hq:∀ x y,q (f x y)=lt x y) (hnp:Pz npt) (hx:Mq xsh) {n:Nat}:∀ (m:Nat) (d:Array α) (a b l:Nat),d.size < 1152921504606846976->d.size < n->a<=b->b<=d.size->Below lt a b d->b - a < m->l < 1152921504606846976->
 iA C q npt xsh n m d.toList (a:Int) (b:Int) (l:Int)=some (pdq lt d a b l true true).toList
 | 0,d,a,b,l,hs,hn,hab,hb,hB,hm,hl=>by omega
 |m+1,d,a,b,l,hs,hn,hab,hb,hB,hm,hl=>by
  show jQ C q npt xsh n (iA C q npt xsh n m) d.toList (a:Int) (b:Int) (l:Int)=_;unfold jQ;have z:d.toList.length=d.size:=by simp
  rw[YT hS hC hq hnp hx (a0:=d.toList) (by omega) (by omega) m (fun d' a' b' l' h1 h2 h3 h4 h5 h6=>TN hS hC hq hnp hx m d' a' b' l' (by omega) (by omega) h2 h3 h4 h5 h6) d a b l true true hab hb (by omega) hB (by omega) hl n (by omega)];rfl
def zB (lt:α->α->Bool) (l:List α):List α:=(Go.Sort.sort lt l.toArray).toList
theorem AY (hS:SWO lt) (hC:∀ x y,C x y=some (f x y)) (hq:∀ x y,q (f x y)=lt x y) (hnp:Pz npt) (hx:Mq xsh) {n m:Nat} {l:List α} (hl:l.length < 1152921504606846976) (hn:l.length < n) (hm:l.length < m):
 iA C q npt xsh n m l 0 ((l.length:Nat):Int) ((bitsLen l.length:Nat):Int)=some (zB lt l):=by
 have hb:bitsLen l.length < 1152921504606846976:=by
  have:=lt_two_pow_bitsLen l.length;have h2:bitsLen l.length<=60:=(bitsLen_le_iff _ _).2 (by omega);omega
 have:=TN hS hC hq hnp hx (n:=n) m l.toArray 0 l.length (bitsLen l.length) (by simpa using hl) (by simpa using hn) (by omega) (by simp) (.inl rfl) (by omega) hb;have e:((0:Nat):Int)=0:=rfl;rw[e]at this;rw[show l.toArray.toList=l from rfl]at this;rw[this];unfold zB Go.Sort.sort;simp
theorem DU (hS:SWO lt) (l:List α):(zB lt l).Perm l:=by
 obtain⟨h1,_⟩:=sort_sorts lt hS l.toArray;obtain⟨hs,_,hp⟩:=h1;unfold zB;have e1:((Go.Sort.sort lt l.toArray).extract 0 l.toArray.size).toList=(Go.Sort.sort lt l.toArray).toList:=by rw[<- hs];simp
 have e2:(l.toArray.extract 0 l.toArray.size).toList=l:=by simp
 rw[e1,e2]at hp;exact hp
theorem Fy (hS:SWO lt) (l:List α):(zB lt l).Pairwise fun x y=>lt y x=false:=by
 obtain⟨h1,h2⟩:=sort_sorts lt hS l.toArray;have hs:=h1.1;unfold zB;rw[List.pairwise_iff_getElem];intro i j hi hj hij;simp only[Array.length_toList]at hi hj;have:=h2 i j (Nat.zero_le _) hij (by omega);rw[getElem!_pos _ j hj,getElem!_pos _ i hi]at this;simpa using this
theorem Rh (hS:SWO lt) (l:List α):(zB lt l).length=l.length:=(DU hS l).length_eq
end
end Go.Gb
