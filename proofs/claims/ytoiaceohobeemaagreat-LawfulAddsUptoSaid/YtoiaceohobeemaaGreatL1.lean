import Derived.Test.YtoiaceohobeemaaGreatW5
import Derived.Sort.AssemblyPlain
import Derived.Sort.LotD4
import Derived.Sort.LotD5
open Go.IntKind (i64)
open List (length_take length_drop foldl_cons pairwise_cons)
namespace Go.Gb
abbrev ck{α:Type}(c:Bool)(x:Option α):Option α:=cond c x none
abbrev Stp(S O:Type):Type:=S->Option (S⊕O)
end Go.Gb
namespace Go.Gb
open Go.RowKit
theorem bU{x:Int}(h1: -9223372036854775808<=x:=by omega)(h2:x<=9223372036854775807:=by omega):i64.wrap x=x:=by rw[IntKind.wrap_i64];omega
theorem pQ{x:Nat}(h:x<=9223372036854775807):i64.wrap (x:Int)=(x:Int):=bU (by omega) (by omega)
theorem aR{i:Nat}(h:i<9223372036854775807):i64.wrap ((i:Int)+1)=((i+1:Nat):Int):=by rw[bU (by omega) (by omega)];omega
theorem aW(i:Nat)(h:i<9223372036854775807:=by omega):IntKind.i64.wrap ((i:Int)+1)=((i+1:Nat):Int):=aR h
theorem lC{i:Nat}(h0:0<i)(h:i<=9223372036854775807):i64.wrap ((i:Int) -1)=((i -1:Nat):Int):=by rw[bU (by omega) (by omega)];omega
section
variable {α β S V O W:Type}
@[simp] theorem L5 (l:List α) (i:Nat):bo l (i:Int)=l[i]? :=by simp[bo]
theorem zm(l:List α)(i:Nat):bo l (((0:Nat):Int)+(i:Int))=l[i]? :=by simp[bo]
theorem bB{l:List α}{i:Nat}(h:i<l.length):bo l (i:Int)=some l[i]:=by simp[h]
theorem bM{l:List α}{i:Nat}(h:i<l.length):bo l (((0:Nat):Int)+(i:Int))=some l[i]:=by rw[zm];simp[h]
theorem amn{l:List α}(h:0<l.length):bo l 0=some l[0]:=by have:=bB h;simpa using this
@[simp] theorem aoA (i n:Nat):b9 (i:Int) n=decide (i<n):=by simp[b9]
theorem bE{i n:Nat}(h:i<n):b9 (i:Int) n=true:=by simp[h]
@[simp] theorem fG (a:α) (f:α->β):j6 a f=f a:=rfl
@[simp] theorem aG (a:Nat):bk a a=true:=by simp[bk]
theorem Rz{a b:Nat}(h:a=b):bk a b=true:=by simp[bk,h]
@[simp] theorem cZ (l:List α):sub l 0 l.length=l:=by simp[sub]
@[simp] theorem an3 (n b:Nat):bR 0 0 n n b=(decide (n*b<=140737488355328)&&decide (n<=maxLen)):=by simp[bR]
theorem eX{a n b:Nat}(h1:(a+n)*b<=140737488355328:=by omega)(h2:a+n<=maxLen:=by simp only[maxLen];omega):bR a a n n b=true:=by simp[bR,h1,h2]
theorem tK{l h:Int}{n:Nat}(h1:0<=l)(h2:l<=h)(h3:h<=(n:Int)):yF l h n=true:=by simp[yF,h1,h2,h3]
@[simp] theorem dP (w:W) (f:W->Option α):dw (some (Sum.inl w:W⊕α)) f=f w:=rfl
@[simp] theorem fH (a:α) (f:W->Option α):dw (some (Sum.inr a:W⊕α)) f=some a:=rfl
theorem Fw(step:V->Option (V⊕O))(n:Nat)(v:V):iter step (n+1) v=(step v).bind λr=>match r with
 | .inl v=>iter step n v
 | .inr o=>some o:=rfl
theorem dx{step:V->Option (V⊕O)}{n:Nat}{v v':V}(h:step v=some (.inl v')):iter step (n+1) v=iter step n v':=by rw[Fw,h];rfl
theorem bJ{step:V->Option (V⊕O)}{n:Nat}{v:V}{o:O}(h:step v=some (.inr o)):iter step (n+1) v=some o:=by rw[Fw,h];rfl
theorem nu{step:V->Option (V⊕O)}(g:Nat->V)(N:Nat)(o:O)(h:∀i,i<N->step (g i)=some (.inl (g (i+1))))(hN:step (g N)=some (.inr o)):
 ∀n,N<n->iter step n (g 0)=some o:=by
 have main:∀k i n,i+k=N->k<n->iter step n (g i)=some o:=by
  intro k
  induction k with
  |zero=>
   intro i n hi hn;obtain⟨m,rfl⟩:∃m,n=m+1:=⟨n -1,by omega⟩;have:i=N:=(by omega);subst this;exact bJ hN
  |succ k ih=>
   intro i n hi hn;obtain⟨m,rfl⟩:∃m,n=m+1:=⟨n -1,by omega⟩;rw[dx (h i (by omega))];exact ih (i+1) m (by omega) (by omega)
 intro n hn;exact main N 0 n (by omega) hn
def XK(f:α->S->S⊕O)(fin:S->O):List α->S->O
 |[],s=>fin s
 |x::xs,s=>match f x s with
  | .inl s'=>XK f fin xs s'
  | .inr o=>o
theorem agI{l:List α}{step:V->Option (V⊕O)}(enc:Nat->S->V)(f:α->S->S⊕O)(fin:S->O)(Inv:Nat->S->Prop)
 (h:∀i (hi:i<l.length) s,Inv i s->step (enc i s)=some (match f l[i] s with | .inl s'=> .inl (enc (i+1) s') | .inr o=> .inr o)/\∀s',f l[i] s= .inl s'->Inv (i+1) s')
 (hend:∀s,Inv l.length s->step (enc l.length s)=some (.inr (fin s))):∀n,l.length<n->∀s,Inv 0 s->iter step n (enc 0 s)=some (XK f fin l s):=by
 have main:∀k i n,i+k=l.length->k<n->∀s,Inv i s->iter step n (enc i s)=some (XK f fin (l.drop i) s):=by
  intro k
  induction k with
  |zero=>
   intro i n hi hn s hs;obtain⟨m,rfl⟩:∃m,n=m+1:=⟨n -1,by omega⟩;have:i=l.length:=(by omega);subst this;rw[bJ (hend s hs)];simp[XK]
  |succ k ih=>
   intro i n hi hn s hs;obtain⟨m,rfl⟩:∃m,n=m+1:=⟨n -1,by omega⟩;have hil:i<l.length:=(by omega);have⟨h1,h2⟩:=h i hil s hs;rw[List.drop_eq_getElem_cons hil];simp only[XK];cases hf:f l[i] s with
   |inl s'=>
    rw[hf]at h1;rw[dx h1];exact ih (i+1) m (by omega) (by omega) s' (h2 s' hf)
   |inr o=>
    rw[hf]at h1;rw[bJ h1]
 intro n hn s hs;have:=main l.length 0 n (by omega) hn s hs;simpa using this
theorem XL(g:α->S->S)(fin:S->O):∀(l:List α)(s:S),XK (λ x s=> .inl (g x s)) fin l s=fin (l.foldl (λ s x=>g x s) s)
 |[],_=>rfl
 |x::xs,s=>by simp only[XK,foldl_cons];exact XL g fin xs _
theorem gm{l:List α}{step:V->Option (V⊕O)}(enc:Nat->S->V)(g:α->S->S)(fin:S->O)(Inv:Nat->S->Prop)
 (h:∀i (hi:i<l.length) s,Inv i s->step (enc i s)=some (.inl (enc (i+1) (g l[i] s)))/\Inv (i+1) (g l[i] s))
 (hend:∀s,Inv l.length s->step (enc l.length s)=some (.inr (fin s))) (n:Nat) (hn:l.length<n) (s:S) (hs:Inv 0 s):iter step n (enc 0 s)=some (fin (l.foldl (λ s x=>g x s) s)):=by rw[agI enc (λ x s=> .inl (g x s)) fin Inv (λ i hi s hs=>⟨(h i hi s hs).1,λs' hs'=>by injection hs' with hs';subst hs';exact(h i hi s hs).2⟩) hend n hn s hs,XL]
theorem nH{l:List α}{step:V->Option (V⊕O)}(enc:Nat->S->V)(g:α->S->S)(fin:S->O)
 (h:∀i (hi:i<l.length) s,step (enc i s)=some (.inl (enc (i+1) (g l[i] s))))
 (hend:∀s,step (enc l.length s)=some (.inr (fin s))) (n:Nat) (hn:l.length<n) (s:S):iter step n (enc 0 s)=some (fin (l.foldl (λ s x=>g x s) s)):=
 gm enc g fin (λ _ _=>True) (λ i hi s _=>⟨h i hi s,trivial⟩) (λ s _=>hend s) n hn s trivial
def pq(p:α->Bool):List α->Option Nat
 |[]=>none
 |x::xs=>bif p x then some 0 else(pq p xs).map (· +1)
theorem GY(p:α->Bool):∀(l:List α),(∃ (i:Nat) (h:i<l.length),pq p l=some i/\p l[i]=true/\∀j (hj:j<i),p (l[j]'(by omega))=false)\/(pq p l=none/\∀x∈l,p x=false)
 |[]=> .inr ⟨rfl,by simp⟩
 |x::xs=>by
  cases hx:p x with
  |true=>exact .inl ⟨0,by simp,by simp[pq,hx],by simpa using hx,λj hj=>by omega⟩
  |false=>
   rcases GY p xs with ⟨i,h,h1,h2,h3⟩ |⟨h1,h2⟩
   ·refine .inl ⟨i+1,by simpa using h,by simp[pq,hx,h1],by simpa using h2,λj hj=>?_⟩;cases j with
    |zero=>simpa using hx
    |succ j=>simpa using h3 j (by omega)
   ·exact .inr ⟨by simp[pq,hx,h1],by simpa[hx]using h2⟩
theorem tL{l:List α}{step:V->Option (V⊕(W⊕O))}(enc:Nat->V)(p:α->Bool)(w:W)(ab:Nat->O)
 (h:∀i (hi:i<l.length),step (enc i)=some (bif p l[i]then .inr (.inr (ab i))else .inl (enc (i+1))))
 (hend:step (enc l.length)=some (.inr (.inl w))) (n:Nat) (hn:l.length<n):iter step n (enc 0)=some (match pq p l with |some i=> .inr (ab i) |none=> .inl w):=by
 rcases GY p l with ⟨i,hi,h1,h2,h3⟩ |⟨h1,h2⟩
 ·rw[h1];refine nu enc i _ (λ j hj=>?_) ?_ n (by omega)
  ·rw[h j (by omega),h3 j hj];rfl
  ·rw[h i hi,h2];rfl
 ·rw[h1];refine nu enc l.length _ (λ j hj=>?_) hend n hn;rw[h j hj,h2 _ (List.getElem_mem hj)];rfl
theorem uy(p:α->Bool)(l:List α):(pq p l).isSome=l.any p:=by
 induction l with
 |nil=>rfl
 |cons x xs ih=>
  simp only[pq,List.any_cons];cases p x with
  |true=>rfl
  |false=>simp[ih]
end
section
variable {α:Type}
def nI(lt:α->α->Bool)(x:α):List α->List α
 |[]=>[x]
 |y::ys=>bif lt x y then y::nI lt x ys else x::y::ys
def kY(lt:α->α->Bool)(l:List α):List α:=(l.foldl (λ rs x=>nI lt x rs) []).reverse
variable {lt:α->α->Bool} {less:α->α->Option Bool}
theorem M9(x:α):∀ys:List α,(nI lt x ys).length=ys.length+1
 |[]=>rfl
 |y::ys=>by
  simp only[nI];cases lt x y<;>simp[M9 x ys]
theorem Ny(x z:α):∀ys:List α,z∈nI lt x ys↔z=x\/z∈ys
 |[]=>by simp[nI]
 |y::ys=>by
  simp only[nI];cases lt x y with
  |true=>simp only[aj,aN,Ny x z ys];exact⟨λ h=>by rcases h with h |h |h<;>simp[h],λh=>by rcases h with h |h |h<;>simp[h]⟩
  |false=>simp
theorem ajg(z:α)(l:List α):z∈kY lt l↔z∈l:=by
 unfold kY;rw[List.mem_reverse];have:∀(l rs:List α),z∈l.foldl (λ rs x=>nI lt x rs) rs↔z∈l\/z∈rs:=by
  intro l
  induction l with
  |nil=>simp
  |cons x l ih=>intro rs;simp only[foldl_cons,ih,Ny,aN];exact⟨λ h=>by rcases h with h |h |h<;>simp[h],λh=>by rcases h with (h |h) |h<;>simp[h]⟩
 simpa using this l []
theorem eO(l:List α):(kY lt l).length=l.length:=by
 unfold kY;rw[List.length_reverse];have:∀(l rs:List α),(l.foldl (λ rs x=>nI lt x rs) rs).length=l.length+rs.length:=by
  intro l
  induction l with
  |nil=>simp
  |cons x l ih=>intro rs;simp only[foldl_cons,ih,M9,bF];omega
 simpa using this l []
end
theorem eI(x:Int):∀ys:List Int,ys.Pairwise (· >= ·)->(nI (λ a b=>decide (a<b)) x ys).Pairwise (· >= ·)
 |[],_=>by simp[nI]
 |y::ys,h=>by
  simp only[nI];rw[pairwise_cons]at h;by_cases hxy:x<y
  ·simp only[hxy,decide_true,aj,pairwise_cons];refine⟨λ z hz=>?_,eI x ys h.2⟩;rcases (Ny x z ys).1 hz with rfl |hz
   ·exact Int.le_of_lt hxy
   ·exact h.1 z hz
  ·simp only[hxy,decide_false,ak,pairwise_cons,aN];refine⟨λ z hz=>?_,h⟩;rcases hz with rfl |hz
   ·omega
   ·have:=h.1 z hz;omega
theorem gS(l:List Int):(kY (λ a b=>decide (a<b)) l).Pairwise (· <= ·):=by
 unfold kY;rw[List.pairwise_reverse];have:∀(l rs:List Int),rs.Pairwise (· >= ·)->(l.foldl (λ rs x=>nI (λ a b=>decide (a<b)) x rs) rs).Pairwise (· >= ·):=by
  intro l
  induction l with
  |nil=>intro rs h;exact h
  |cons x l ih=>intro rs h;exact ih _ (eI x rs h)
 exact this l [] List.Pairwise.nil
def gQ:List Int->List Int
 |[]=>[]
 |[x]=>[x]
 |x::y::l=>bif x==y then gQ (y::l)else x::gQ (y::l)
theorem XM:∀{a b:List Int},a.Pairwise (· < ·)->b.Pairwise (· < ·)->(∀ z,z∈a↔z∈b)->a=b
 |[],[],_,_,_=>rfl
 |[],y::b,_,_,h=>by have:=(h y).2 (by simp);simp at this
 |x::a,[],_,_,h=>by have:=(h x).1 (by simp);simp at this
 |x::a,y::b,ha,hb,h=>by
  rw[pairwise_cons]at ha hb;have hxy:x=y:=by
   have h1:=(h x).1 (by simp);have h2:=(h y).2 (by simp);rcases aN.1 h1 with h1 |h1
   ·exact h1
   ·rcases aN.1 h2 with h2 |h2
    ·exact h2.symm
    ·have:=ha.1 y h2;have:=hb.1 x h1;omega
  subst hxy;congr 1;refine XM ha.2 hb.2 λz=>⟨λ hz=>?_,λhz=>?_⟩
  ·rcases aN.1 ((h z).1 (dS _ hz))with e |e
   ·have:=ha.1 z hz;omega
   ·exact e
  ·rcases aN.1 ((h z).2 (dS _ hz))with e |e
   ·have:=hb.1 z hz;omega
   ·exact e
theorem zn:∀(l:List Int)(z:Int),z∈gQ l↔z∈l
 |[],_=>by simp[gQ]
 |[x],_=>by simp[gQ]
 |x::y::l,z=>by
  simp only[gQ];by_cases h:x=y
  ·subst h;simp only[beq_self_eq_true,aj,zn (x::l) z,aN,or_self_left]
  ·have:(x==y)=false:=(by simp[h]);simp only[this,ak,aN,zn (y::l) z]
theorem yH:∀(l:List Int),l.Pairwise (· <= ·)->(gQ l).Pairwise (· < ·)
 |[],_=>List.Pairwise.nil
 |[x],_=>by simp[gQ]
 |x::y::l,h=>by
  rw[pairwise_cons]at h;simp only[gQ];by_cases e:x=y
  ·subst e;simp only[beq_self_eq_true,aj];exact yH (x::l) h.2
  ·have hb:(x==y)=false:=(by simp[e]);simp only[hb,ak,pairwise_cons];refine⟨λ z hz=>?_,yH (y::l) h.2⟩;rw[zn]at hz;have h1:=h.1 y (by simp);rcases aN.1 hz with rfl |hz
   ·omega
   ·have:=(pairwise_cons.1 h.2).1 z hz;omega
def B6(l:List Int):List Int:=gQ (kY (λ a b=>decide (a<b)) l)
theorem aer(l:List Int)(z:Int):z∈B6 l↔z∈l:=by rw[B6,zn,ajg]
theorem TQ(l:List Int):(B6 l).Pairwise (· < ·):=yH _ (gS l)
theorem aes{l m:List Int}(h:m.Pairwise (· < ·))(hm:∀z,z∈m↔z∈l):m=B6 l:=XM h (TQ l) λz=>by rw[hm,aer]
section
variable {α:Type}
def Lt(l:List α)(φ:(α×Unit)->Option Bool):Int->Option (Int⊕(Unit⊕Int))
 |v1=>(bif (decide (v1<((l.length:Int):Int)))then(bo l v1).bind λx1=>(φ (x1,())).bind λr1=>(bif r1 then(some v1).map λa=> .inr (.inr a)else some (.inl (i64.wrap (v1+1))))else some (.inr (.inl ())))
def xH(n:Nat)(l:List α)(φ:(α×Unit)->Option Bool):Option Int:=
 dw (iter (Lt l φ) n (0:Int)) λ()=>some ((-1):Int)
def Dz(p:α->Bool)(l:List α):Int:=match pq p l with |some i=>(i:Int) |none=> -1
theorem II{n:Nat}{l:List α}{φ:(α×Unit)->Option Bool}(p:α->Bool)(h:∀x∈l,φ (x,())=some (p x))(hl:l.length<=9223372036854775807)(hn:l.length<n):xH n l φ=some (Dz p l):=by
 unfold xH;have:=tL (l:=l) (step:=Lt l φ) (λ i=>(i:Int)) p () (λ i=>(i:Int)) (λ i hi=>?_) ?_ n hn
 ·rw[show ((0:Nat):Int)=0 from rfl]at this;rw[this];unfold Dz;cases pq p l<;>rfl
 ·have hi':decide ((i:Int)<(l.length:Int))=true:=by simpa using hi
  simp only[Lt,hi',aj,bB hi,ah,h _ (List.getElem_mem hi)];cases p l[i]with
  |true=>rfl
  |false=>simp only[ak];rw[aR (by omega)]
 ·simp[Lt]
theorem iH{n:Nat}{l:List α}{φ:(α×Unit)->Option Bool}(p:α->Bool)(h:∀x∈l,φ (x,())=some (p x))(hl:l.length<1099511627776)(hn:l.length<n):xH n l φ=some (Dz p l):=II p h (by omega) hn
theorem zo(p:α->Bool)(l:List α):decide (Dz p l>=0)=l.any p:=by
 unfold Dz;rw[<- uy];cases pq p l<;>simp
theorem akS{p:α->Bool}{l:List α}(h:l.any p=true):∃(i:Nat)(hi:i<l.length),Dz p l=(i:Int)/\l.find? p=some l[i]:=by
 rcases GY p l with ⟨i,hi,h1,h2,h3⟩ |⟨h1,h2⟩
 ·refine⟨i,hi,by simp[Dz,h1],?_⟩;rw[List.find?_eq_some_iff_getElem];exact⟨h2,i,hi,rfl,λj hj=>by simpa using h3 j hj⟩
 ·rw[List.any_eq_true]at h;obtain⟨x,hx,hp⟩:=h;rw[h2 x hx]at hp;cases hp
def IT(eq:α->Bool)(l:List α):Int->Option (Int⊕(Unit⊕Int))
 |v1=>(bif (decide (v1<((l.length:Int):Int)))then(bo l v1).bind λx1=>(bif eq x1 then(some v1).map λa=> .inr (.inr a)else some (.inl (i64.wrap (v1+1))))else some (.inr (.inl ())))
def V1(n:Nat)(eq:α->Bool)(l:List α):Option Int:=
 dw (iter (IT eq l) n (0:Int)) λ()=>some ((-1):Int)
theorem TS{n:Nat}{l:List α}{eq:α->Bool}(hl:l.length<1099511627776)(hn:l.length<n):V1 n eq l=some (Dz eq l):=by
 unfold V1;have:=tL (l:=l) (step:=IT eq l) (λ i=>(i:Int)) eq () (λ i=>(i:Int)) (λ i hi=>?_) ?_ n hn
 ·rw[show ((0:Nat):Int)=0 from rfl]at this;rw[this];unfold Dz;cases pq eq l<;>rfl
 ·have hi':decide ((i:Int)<(l.length:Int))=true:=by simpa using hi
  simp only[IT,hi',aj,bB hi,ah];cases eq l[i]with
  |true=>rfl
  |false=>simp only[ak];rw[aR (by omega)]
 ·simp[IT]
noncomputable def aie(b:Nat)(a0:List α):Option (List α):=
 (bif a0.isEmpty then(both (some ([]:(List α))) (bif bR ([]:List α).length 0 a0.length a0.length b then j6 (([]:List α)++a0) λr1=>bif bk (sub r1 0 r1.length).length r1.length then some (sub r1 0 r1.length)else none else none))else bif bR ([]:List α).length 0 a0.length a0.length b then j6 (([]:List α)++a0) λr2=>bif bk (sub r2 0 r2.length).length r2.length then some (sub r2 0 r2.length)else none else none)
theorem TU{l:List α}{b:Nat}(h:l.length*b<=140737488355328)(h2:l.length<=maxLen):aie b l=some l:=by
 have:bR ([]:List α).length 0 l.length l.length b=true:=eX (a:=0) (by simpa using h) (by simpa using h2);unfold aie;cases l with
 |nil=>simp only[this,aj,fG,bO,cZ,aG,List.isEmpty_nil];exact aja _
 |cons x l=>simp only[this,aj,fG,bO,cZ,aG,List.isEmpty_cons,ak]
def UT(z:α)(b:Nat)(a1:Int):Option (List α):=
 (bif (decide (a1<(0:Int)))then none else(bif (decide ((i64.wrap (a1 -(i64.wrap (0 -0))))>(0:Int)))then bif BH (i64.wrap (a1 -(i64.wrap (0 -0)))) b then bif yF 0 0 ((i64.wrap (a1 -(i64.wrap (0 -0)))).toNat)then bif bk (sub (List.replicate (i64.wrap (a1 -(i64.wrap (0 -0)))).toNat z) 0 0).length 0 then some (sub (List.replicate (i64.wrap (a1 -(i64.wrap (0 -0)))).toNat z) 0 0)else none else none else none else some ([]:(List α))))
theorem agL(z:α){b n:Nat}(h:n*b<=140737488355328)(hn:n<1099511627776):UT z b (n:Int)=some []:=by
 have w0:i64.wrap (0 -0)=0:=by decide
 have w1:i64.wrap ((n:Int) -0)=(n:Int):=by rw[Int.sub_zero];exact pQ (by omega)
 have d:decide ((n:Int)<0)=false:=by simp
 have m:BH (n:Int) b=true:=by
  have h9:n<=maxLen:=by simp only[maxLen];omega
  simp[BH,h,h9]
 have s:yF 0 0 (n:Int).toNat=true:=tK (by omega) (by omega) (by omega);have e:sub (List.replicate (n:Int).toNat z) 0 0=[]:=by simp[sub]
 unfold UT;simp only[w0,w1,d,ak,m,aj,s,e];cases decide ((n:Int)>0)<;>rfl
def Mu(a0:List (List α)):(Int×Int)->Option ((Int×Int)⊕Int)
 |(v1,v2)=>(bif (decide (v2<((a0.length:Int):Int)))then(bo a0 v2).bind λx1=>(bif (decide ((i64.wrap (v1+(x1.length:Int)))<(0:Int)))then none else some (.inl ((i64.wrap (v1+(x1.length:Int))),(i64.wrap (v2+1)))))else some (.inr v1))
def Mp(b:Nat)(a0:List (List α)):(Int×List α)->Option ((Int×List α)⊕List α)
 |(v3,v4)=>(bif (decide (v3<((a0.length:Int):Int)))then(bo a0 v3).bind λx2=>bif bR v4.length v4.length x2.length x2.length b then j6 (v4++x2) λr2=>bif bk r2.length r2.length then some (.inl ((i64.wrap (v3+1)),r2))else none else none else bif bk v4.length v4.length then some (.inr v4)else none)
def aeu(z:α)(b:Nat)(n:Nat)(a0:List (List α)):Option (List α):=
 (iter (Mu a0) n ((0:Int),(0:Int))).bind λw1=>(UT z b w1).bind λr1=>bif bk r1.length r1.length then(iter (Mp b a0) n ((0:Int),r1)).bind λw2=>bif bk (sub w2 0 w2.length).length w2.length then some (sub w2 0 w2.length)else none else none
theorem Pe(z:α){b n:Nat}{a0:List (List α)}(hf:a0.flatten.length<1099511627776)(hb:a0.flatten.length*b<=140737488355328)(hl:a0.length<1099511627776)(hn:a0.length<n):aeu z b n a0=some a0.flatten:=by
 have pre:∀i,i<=a0.length->(a0.take i).flatten.length<=a0.flatten.length:=λi _=>by
  conv=>rhs;rw[<- List.take_append_drop i a0,List.flatten_append,dH]
  omega
 have step:∀i (hi:i<a0.length),(a0.take (i+1)).flatten=(a0.take i).flatten++a0[i]:=λi hi=>by rw[j4 hi,List.flatten_append];simp only[List.flatten_cons,List.flatten_nil,List.append_nil]
 have h1:iter (Mu a0) n ((0:Int),(0:Int))=some (a0.flatten.length:Int):=by
  refine nu (λ i=>(((a0.take i).flatten.length:Int),(i:Int))) a0.length _ (λ i hi=>?_) ?_ n hn
  ·have hi':decide ((i:Int)<(a0.length:Int))=true:=(by simpa using hi);have e1:(((a0.take i).flatten.length:Int)+(a0[i].length:Int))=((a0.take (i+1)).flatten.length:Int):=(by rw[step i hi,dH];omega);have h3:=pre (i+1) (by omega);have e2:i64.wrap ((a0.take (i+1)).flatten.length:Int)=((a0.take (i+1)).flatten.length:Int):=pQ (by omega);have e3:decide (((a0.take (i+1)).flatten.length:Int)<0)=false:=(by simp);simp only[Mu,hi',aj,bB hi,ah,e1,e2,e3,ak];rw[aR (by omega)]
  ·simp[Mu]
 have h2:iter (Mp b a0) n ((0:Int),([]:List α))=some a0.flatten:=by
  refine nu (λ i=>((i:Int),(a0.take i).flatten)) a0.length _ (λ i hi=>?_) ?_ n hn
  ·have hi':decide ((i:Int)<(a0.length:Int))=true:=(by simpa using hi);have h3:=pre (i+1) (by omega);have e1:(a0.take i).flatten.length+a0[i].length=(a0.take (i+1)).flatten.length:=(by rw[step i hi,dH]);have ap:bR (a0.take i).flatten.length (a0.take i).flatten.length a0[i].length a0[i].length b=true:=eX (by rw[e1];exact Nat.le_trans (Nat.mul_le_mul_right _ h3) hb) (by simp only[maxLen];omega);simp only[Mp,hi',aj,bB hi,ah,ap,fG,aG,<- step i hi];rw[aR (by omega)]
  ·simp[Mp]
 unfold aeu;simp only[h1,ah,agL z hb hf,aG,aj,h2,cZ]
def B5(ne:α->α->Bool)(a b:List α):Int->Option (Int⊕(Unit⊕Bool))
 |v1=>(bif (decide (v1<((a.length:Int):Int)))then(bo a v1).bind λx1=>(bo b v1).bind λx2=>(bif ne x1 x2 then(some false).map λa=> .inr (.inr a)else some (.inl (i64.wrap (v1+1))))else some (.inr (.inl ())))
def Vw(n:Nat)(ne:α->α->Bool)(a b:List α):Option Bool:=
 (bif ((a.length:Int) !=((b.length:Int):Int))then some false else dw (iter (B5 ne a b) n (0:Int)) λ()=>some true)
theorem TW[DecidableEq α]{n:Nat}{ne:α->α->Bool}{a b:List α}(h:∀x y,ne x y=!decide (x=y))(hl:a.length<1099511627776)(hn:a.length<n):Vw n ne a b=some (decide (a=b)):=by
 unfold Vw;by_cases hlen:a.length=b.length
 ·have h0:((a.length:Int) !=(b.length:Int))=false:=by simp[hlen]
  rw[h0,ak];by_cases he:a=b
  ·subst he;have:=nu (step:=B5 ne a a) (λ i=>(i:Int)) a.length (.inl ()) (λ i hi=>?_) ?_ n hn
   ·rw[show ((0:Nat):Int)=0 from rfl]at this;rw[this];simp
   ·have hi':decide ((i:Int)<(a.length:Int))=true:=(by simpa using hi);simp only[B5,hi',aj,bB hi,ah,h,decide_true,Bool.not_true,ak];rw[aR (by omega)]
   ·simp[B5]
  ·
   have hp:∃i,∃(h1:i<a.length) (h2:i<b.length),a[i]≠b[i]/\∀j (hj:j<i),a[j]'(by omega)=b[j]'(by omega):=by
    have hex:∃i,∃(h1:i<a.length) (h2:i<b.length),a[i]≠b[i]:=by
     refine vP λhc=>he ?_;refine List.ext_getElem hlen λi h1 h2=>?_;exact vP λhne=>hc ⟨i,h1,h2,hne⟩
    have hmin:∀k,(∃ i,i<=k/\∃(h1:i<a.length) (h2:i<b.length),a[i]≠b[i])->∃i,∃(h1:i<a.length) (h2:i<b.length),a[i]≠b[i]/\∀j (hj:j<i),a[j]'(by omega)=b[j]'(by omega):=by
     intro k
     induction k with
     |zero=>
      rintro⟨i,hi,h1,h2,h3⟩;have:i=0:=(by omega);subst this;exact⟨0,h1,h2,h3,λj hj=>by omega⟩
     |succ k ih=>
      rintro⟨i,hi,h1,h2,h3⟩;by_cases hs:∃i,i<=k/\∃(h1:i<a.length) (h2:i<b.length),a[i]≠b[i]
      ·exact ih hs
      ·refine⟨i,h1,h2,h3,λj hj=>?_⟩;exact vP λhne=>hs ⟨j,by omega,by omega,by omega,hne⟩
    obtain⟨i,h1,h2,h3⟩:=hex;exact hmin i ⟨i,aQ i,h1,h2,h3⟩
   obtain⟨i,h1,h2,h3,h4⟩:=hp;have:=nu (step:=B5 ne a b) (λ i=>(i:Int)) i (.inr false) (λ j hj=>?_) ?_ n (by omega)
   ·rw[show ((0:Nat):Int)=0 from rfl]at this;rw[this];simp[he]
   ·have hj':decide ((j:Int)<(a.length:Int))=true:=(by simp;omega);simp only[B5,hj',aj,bB (show j<a.length by omega),bB (show j<b.length by omega),ah,h,h4 j hj,decide_true,Bool.not_true,ak];rw[aR (by omega)]
   ·have hi':decide ((i:Int)<(a.length:Int))=true:=(by simpa using h1);simp only[B5,hi',aj,bB h1,bB h2,ah,h,h3,decide_false,Bool.not_false,Option.map_some]
 ·have h0:((a.length:Int) !=(b.length:Int))=true:=by simp;omega
  rw[h0,aj];have:a≠b:=λe=>hlen (by rw[e]);simp[this]
end
theorem Na(p:Nat->Bool)(a b:Nat):(∃ i,a<=i/\i<b/\p i=true/\∀j,a<=j->j<i->p j=false)\/∀j,a<=j->j<b->p j=false:=by
 by_cases hab:a<=b
 ·obtain⟨k,rfl⟩:∃k,b=a+k:=⟨b -a,by omega⟩;clear hab
  induction k with
  |zero=>exact .inr λj h1 h2=>by omega
  |succ k ih=>
   rcases ih with ⟨i,h1,h2,h3,h4⟩ |h
   ·exact .inl ⟨i,h1,by omega,h3,h4⟩
   ·cases hp:p (a+k)with
    |true=>exact .inl ⟨a+k,by omega,by omega,hp,λj h1 h2=>h j h1 h2⟩
    |false=>
     refine .inr λj h1 h2=>?_;by_cases e:j=a+k
     ·subst e;exact hp
     ·exact h j h1 (by omega)
 ·exact .inr λj h1 h2=>by omega
section
variable {α:Type}
def XO(ne:α->α->Bool)(a0:List α)(v1:Int):(Int×Int×List α)->Option ((Int×Int×List α)⊕(Int×List α))
 |(v2,v3,v4)=>(bif (decide (v3<((((a0.length -(v1:Int).toNat):Nat):Int):Int)))then(bif b9 v3 (a0.length -(v1:Int).toNat)then(bo v4 (((0+(v1:Int).toNat):Nat)+v3:Int)).bind λx3=>bif b9 (i64.wrap (v3 -1)) (a0.length -(v1:Int).toNat)then(bo v4 (((0+(v1:Int).toNat):Nat)+(i64.wrap (v3 -1)):Int)).bind λx4=>(bif ne x3 x4 then bif b9 v3 (a0.length -(v1:Int).toNat)then(bo v4 (((0+(v1:Int).toNat):Nat)+v3:Int)).bind λx5=>bif b9 v2 a0.length then(bo v4 ((0:Nat)+v2:Int)).bind λ_=>some ((i64.wrap (v2+1)),(v4.set ((0:Nat)+v2:Int).toNat x5))else none else none else some (v2,v4))else none else none:Option (Int×(List α))).bind λ(v5,v6)=>some (.inl (v5,(i64.wrap (v3+1)),v6))else some (.inr (v2,v4)))
def Kn(eq ne:α->α->Bool)(n:Nat)(a0:List α):Int->Option (Int⊕(Unit⊕(Unit×List α)))
 |v1=>(bif (decide (v1<((a0.length:Int):Int)))then bif b9 v1 a0.length then(bo a0 ((0:Nat)+v1:Int)).bind λx1=>bif b9 (i64.wrap (v1 -1)) a0.length then(bo a0 ((0:Nat)+(i64.wrap (v1 -1)):Int)).bind λx2=>(bif eq x1 x2 then bif yF v1 (a0.length:Int) a0.length then(iter (XO ne a0 v1) n (v1,(1:Int),a0)).bind λ(w1,w2)=>bif yF w1 (a0.length:Int) a0.length then bif yF 0 w1 a0.length then(bif bk ((w1:Int).toNat) ((w1:Int).toNat)then bif bk (sub (w2.take (0+(w1:Int).toNat)) 0 ((w1:Int).toNat)).length ((w1:Int).toNat)then some ((),(sub (w2.take (0+(w1:Int).toNat)) 0 ((w1:Int).toNat)))else none else none).map λa=> .inr (.inr a)else none else none else none else some (.inl (i64.wrap (v1+1))))else none else none else some (.inr (.inl ())))
def abe(eq ne:α->α->Bool)(n:Nat)(a0:List α):Option (Unit×List α):=
 (bif (decide ((a0.length:Int)<(2:Int)))then bif bk a0.length a0.length then bif bk (sub a0 0 a0.length).length a0.length then some ((),(sub a0 0 a0.length))else none else none else dw (iter (Kn eq ne n a0) n (1:Int)) λ()=>bif bk a0.length a0.length then bif bk (sub a0 0 a0.length).length a0.length then some ((),(sub a0 0 a0.length))else none else none)
def uz(ne:α->α->Bool)(s:α×List α)(x:α):α×List α:=(x,bif ne x s.1 then s.2++[x]else s.2)
def xm(ne:α->α->Bool):List α->List α
 |[]=>[]
 |x::xs=>x::(xs.foldl (uz ne) (x,[])).2
theorem XP(ne:α->α->Bool)(xs:List α)(x:α)(K:List α):xs.foldl (uz ne) (x,K)=((xs.foldl (uz ne) (x,[])).1,K++(xs.foldl (uz ne) (x,[])).2):=by
 induction xs generalizing x K with
 |nil=>simp
 |cons y xs ih=>
  simp only[foldl_cons,uz];cases ne y x with
  |true=>simp only[aj,bO];rw[ih y (K++[y]),ih y [y]];simp
  |false=>simp only[ak];rw[ih y K]
theorem RA(ne:α->α->Bool):∀(xs:List α)(x:α),(∀ i (h:i+1<(x::xs).length),ne ((x::xs)[i+1]) ((x::xs)[i])=true)->xs.foldl (uz ne) (x,[])=((x::xs).getLast (by simp),xs)
 |[],x,_=>rfl
 |y::xs,x,h=>by
  have h0:=h 0 (by simp);simp only[List.getElem_cons_succ,List.getElem_cons_zero]at h0;simp only[foldl_cons,uz,h0,aj,bO];rw[XP,RA ne xs y (λ i hi=>h (i+1) (by simp at hi ⊢;omega))];simp
theorem ZQ{eq ne:α->α->Bool}(hen:∀x y,eq x y=!ne x y){n:Nat}{l:List α}(hl:l.length<1099511627776)(hn:l.length<n):abe eq ne n l=some ((),xm ne l):=by
 unfold abe;by_cases h2:l.length<2
 ·have d:decide ((l.length:Int)<2)=true:=by simp;omega
  simp only[d,aj,aG,cZ]
  match l,h2 with
  |[],_=>rfl
  |[x],_=>rfl
  |x::y::l,h2=>exact absurd h2 (by simp)
 ·have d:decide ((l.length:Int)<2)=false:=by simp;omega
  simp only[d,ak,aG,aj,cZ];obtain⟨x0,xs,rfl⟩:∃x xs,l=x::xs:=by
   cases l with
   |nil=>simp at h2
   |cons x xs=>exact⟨x,xs,rfl⟩
  generalize hL:(x0::xs)=l at*;have step1:∀(i:Nat)(hi:i<l.length)(h1:1<=i),eq (l[i]) (l[i -1]'(by omega))=false->Kn eq ne n l (i:Int)=some (.inl ((i+1:Nat):Int)):=λi hi h1 he=>by
   have d1:decide ((i:Int)<(l.length:Int))=true:=(by simpa using hi);simp only[Kn,d1,aj,bE hi,bM hi,ah];rw[lC (by omega) (by omega)];simp only[bE (show i -1<l.length by omega),aj,bM (show i -1<l.length by omega),ah,he,ak];rw[aR (by omega)]
  rcases Na (λ i=>if h:i<l.length then eq (l[i]) (l[i -1]'(by omega))else false) 1 l.length with ⟨i,h1,hi,hp,hq⟩ |hnone
  ·simp only[hi,dite_true]at hp;have hq':∀j (hj1:1<=j) (hj:j<i),eq (l[j]'(by omega)) (l[j -1]'(by omega))=false:=λj hj1 hj=>by
    have:=hq j hj1 hj;simpa only[show j<l.length by omega,dite_true]using this
   have hK:∀s:α×List α,((l.drop (i+1)).foldl (uz ne) s).2.length<=s.2.length+(l.length -(i+1)):=by
    have:∀(ys:List α) (s:α×List α),(ys.foldl (uz ne) s).2.length<=s.2.length+ys.length:=by
     intro ys
     induction ys with
     |nil=>intro s;simp
     |cons y ys ih=>
      intro s;simp only[foldl_cons,bF];refine Nat.le_trans (ih _) ?_;simp only[uz];cases ne y s.1<;>simp<;>omega
    intro s;have:=this (l.drop (i+1)) s
    rwa [length_drop]at this
   have hin:iter (XO ne l (i:Int)) n ((i:Int),(1:Int),l)=some (((i+((l.drop (i+1)).foldl (uz ne) (l[i],[])).2.length:Nat):Int),l.take i++((l.drop (i+1)).foldl (uz ne) (l[i],[])).2++l.drop (i+((l.drop (i+1)).foldl (uz ne) (l[i],[])).2.length)):=by
    have:=gm (l:=l.drop (i+1)) (step:=XO ne l (i:Int)) (λ j (s:α×List α)=>(((i+s.2.length:Nat):Int),((j+1:Nat):Int),l.take i++s.2++l.drop (i+s.2.length))) (λ x s=>uz ne s x) (λ s=>(((i+s.2.length:Nat):Int),l.take i++s.2++l.drop (i+s.2.length)))
     (λ j s=>s.2.length<=j/\l[i+j]? =some s.1) (λ j hj s hs=>?_) (λ s hs=>?_) n (by rw[length_drop];omega) (l[i],[]) ⟨aQ 0,by simp[hi]⟩
    ·simpa using this
    ·obtain⟨s1,s2⟩:=hs;rw[length_drop]at hj;have hx:(l.drop (i+1))[j]'(by rw[length_drop];omega)=l[i+1+j]'(by omega):=(by rw[List.getElem_drop]);have gv:∀k,s.2.length<=k->(l.take i++s.2++l.drop (i+s.2.length))[i+k]? =l[i+k]? :=λk hk=>by
      rw[iK (by simp[length_take];omega),List.getElem?_drop];congr 1;simp only[dH,length_take];omega
     have tn:(i:Int).toNat=i:=(by simp);have d1:decide (((j+1:Nat):Int)<(((l.length -i:Nat)):Int))=true:=(by simp;omega);have a1:bo (l.take i++s.2++l.drop (i+s.2.length)) (((0+i:Nat):Int)+((j+1:Nat):Int))=some (l[i+1+j]'(by omega)):=by
      rw[show (((0+i:Nat):Int)+((j+1:Nat):Int))=((i+(j+1):Nat):Int)by omega,L5,gv (j+1) (by omega),show i+(j+1)=i+1+j by omega];exact dI (by omega)
     have a2:bo (l.take i++s.2++l.drop (i+s.2.length)) (((0+i:Nat):Int)+(j:Int))=some s.1:=(by rw[show (((0+i:Nat):Int)+(j:Int))=((i+j:Nat):Int)by omega,L5,gv j s1,s2]);have wp:i64.wrap (((j+1:Nat):Int) -1)=(j:Int):=(by rw[lC (by omega) (by omega)];rfl);refine⟨?_,?_,?_⟩
     ·simp only[XO,tn,d1,aj,bE (show j+1<l.length -i by omega),a1,ah,wp,bE (show j<l.length -i by omega),a2,hx,uz];cases hne:ne (l[i+1+j]'(by omega)) s.1 with
      |false=>simp only[ak,ah];rw[aR (by omega)]
      |true=>
       have g2:bo (l.take i++s.2++l.drop (i+s.2.length)) (((0:Nat):Int)+((i+s.2.length:Nat):Int))=some (l[i+s.2.length]'(by omega)):=by
        rw[zm,gv s.2.length (aQ _)];exact dI (by omega)
       have z:(((0:Nat):Int)+((i+s.2.length:Nat):Int)).toNat=i+s.2.length:=(by omega);have st:(l.take i++s.2++l.drop (i+s.2.length)).set (i+s.2.length) (l[i+1+j]'(by omega))=l.take i++(s.2++[l[i+1+j]'(by omega)])++l.drop (i+(s.2++[l[i+1+j]'(by omega)]).length):=by
        rw[List.set_append_right _ _ (by simp[length_take];omega)];have e0:i+s.2.length -(l.take i++s.2).length=0:=(by simp[length_take];omega);rw[e0,List.drop_eq_getElem_cons (show i+s.2.length<l.length by omega)];simp only[List.set_cons_zero,dH,List.length_singleton,aK,List.singleton_append];rfl
       simp only[aj,bE (show i+s.2.length<l.length by omega),g2,ah,z,st];rw[aR (by omega),aR (by omega),dH,List.length_singleton];rfl
     ·simp only[uz];cases ne _ s.1<;>simp<;>omega
     ·simp only[uz];rw[show i+(j+1)=i+1+j by omega,hx];exact dI (by omega)
    ·obtain⟨s1,s2⟩:=hs;rw[length_drop]at s1 ⊢;have tn:(i:Int).toNat=i:=(by simp);have d1:decide (((l.length -(i+1)+1:Nat):Int)<(((l.length -i:Nat)):Int))=false:=(by simp;omega);simp only[XO,tn,d1,ak]
   have hfin:Kn eq ne n l (i:Int)=some (.inr (.inr ((),xm ne l))):=by
    have d1:decide ((i:Int)<(l.length:Int))=true:=(by simpa using hi);simp only[Kn,d1,aj,bE hi,bM hi,ah];rw[lC (by omega) (by omega)];simp only[bE (show i -1<l.length by omega),aj,bM (show i -1<l.length by omega),ah,hp];have s0:yF (i:Int) (l.length:Int) l.length=true:=tK (by omega) (by omega) (by omega);have hk:=hK (l[i],[]);simp only[List.length_nil,Nat.zero_add]at hk;have res:l.take i++((l.drop (i+1)).foldl (uz ne) (l[i],[])).2=xm ne l:=by
     have hd:ne (l[i]) (l[i -1]'(by omega))=false:=by
      have:=hen (l[i]) (l[i -1]'(by omega));rw[hp]at this;simpa using this.symm
     subst hL;obtain⟨m,rfl⟩:∃m,i=m+1:=⟨i -1,by omega⟩;have hm:m<xs.length:=(by simp at hi;omega);have e1:xs=xs.take m++xs[m]::xs.drop (m+1):=(by rw[<- List.drop_eq_getElem_cons hm,List.take_append_drop]);have e2:(xs.take m).foldl (uz ne) (x0,[])=((x0::xs.take m).getLast (by simp),xs.take m):=by
      refine RA ne _ x0 λk hk=>?_;simp only[bF,length_take]at hk;have h9:=hq' (k+1) (by omega) (by omega);rw[hen]at h9;have:ne ((x0::xs)[k+1]'(by simp;omega)) ((x0::xs)[k]'(by simp;omega))=true:=(by simpa using h9);have t:∀q (hq:q<(x0::xs.take m).length),(x0::xs.take m)[q]=(x0::xs)[q]'(by simp[length_take]at hq ⊢;omega):=λq hq=>by
       cases q with
       |zero=>rfl
       |succ q=>simp
      rw[t,t];exact this
     have GB:(x0::xs.take m).getLast (by simp)=(x0::xs)[m+1 -1]'(by simp;omega):=by
      rw[List.getLast_eq_getElem];simp only[bF,length_take,Nat.add_sub_cancel];have:min m xs.length=m:=Nat.min_eq_left (by omega);cases m with
      |zero=>simp
      |succ m=>simp[this]
     simp only[List.getElem_cons_succ,List.drop_succ_cons,List.take_succ_cons,List.cons_append,xm,List.cons.injEq,true_and]
     conv=>rhs;rw[e1,List.foldl_append,e2]
     simp only[foldl_cons,uz];rw[GB];simp only[List.getElem_cons_succ]at hd;rw[hd,ak,XP ne (List.drop (m+1) xs) xs[m] (List.take m xs)]
    have tl:(l.take i++((l.drop (i+1)).foldl (uz ne) (l[i],[])).2).length=i+((l.drop (i+1)).foldl (uz ne) (l[i],[])).2.length:=(by rw[dH,length_take,Nat.min_eq_left (by omega)]);simp only[s0,aj,hin,ah];have s1:yF ((i+((l.drop (i+1)).foldl (uz ne) (l[i],[])).2.length:Nat):Int) (l.length:Int) l.length=true:=tK (by omega) (by omega) (by omega);have s2:yF 0 ((i+((l.drop (i+1)).foldl (uz ne) (l[i],[])).2.length:Nat):Int) l.length=true:=tK (by omega) (by omega) (by omega);have tk:(l.take i++((l.drop (i+1)).foldl (uz ne) (l[i],[])).2++l.drop (i+((l.drop (i+1)).foldl (uz ne) (l[i],[])).2.length)).take (i+((l.drop (i+1)).foldl (uz ne) (l[i],[])).2.length)=l.take i++((l.drop (i+1)).foldl (uz ne) (l[i],[])).2:=(by rw[List.take_append_of_le_length (by rw[tl];exact aQ _),<- tl,List.take_length]);simp only[s1,s2,aj,Int.toNat_natCast,aG,Nat.zero_add,tk];rw[<- tl,cZ,aG,aj,res];rfl
   have:=nu (step:=Kn eq ne n l) (λ k=>((k+1:Nat):Int)) (i -1) (.inr ((),xm ne l)) (λ k hk=>?_) ?_ n (by omega)
   ·rw[show ((0+1:Nat):Int)=1 from rfl]at this;rw[this];rfl
   ·exact step1 (k+1) (by omega) (by omega) (hq' (k+1) (by omega) (by omega))
   ·rw[show i -1+1=i by omega];exact hfin
  ·have hnone':∀j (hj1:1<=j) (hj:j<l.length),eq (l[j]) (l[j -1]'(by omega))=false:=λj hj1 hj=>by
    have:=hnone j hj1 hj;simpa only[hj,dite_true]using this
   have:=nu (step:=Kn eq ne n l) (λ k=>((k+1:Nat):Int)) (l.length -1) (.inl ()) (λ k hk=>?_) ?_ n (by omega)
   ·rw[show ((0+1:Nat):Int)=1 from rfl]at this;rw[this];simp only[dP];subst hL;simp only[xm];rw[RA ne xs x0 λk hk=>?_];have h9:=hnone' (k+1) (by omega) hk;rw[hen]at h9;simp only[Nat.add_sub_cancel]at h9;simpa using h9
   ·exact step1 (k+1) (by omega) (by omega) (hnone' (k+1) (by omega) (by omega))
   ·rw[show l.length -1+1=l.length by omega];simp[Kn]
end
theorem aew(l:List Int):xm (λ x y=>x !=y) l=gQ l:=by
 match l with
 |[]=>rfl
 |[x]=>rfl
 |x::y::l=>
  have ih:=aew (y::l);simp only[xm,foldl_cons,uz,gQ]at ih ⊢;by_cases h:y=x
  ·subst h;simp only[bne_self_eq_false,ak,beq_self_eq_true,aj];exact ih
  ·have h1:(y !=x)=true:=(by simp[h]);have h2:(x==y)=false:=(by simp[Ne.symm h]);simp only[h1,aj,h2,ak,bO];rw[XP,<- ih];simp
section
variable {α R:Type}
def iB(C:α->α->Option R)(q:R->Bool)(a0:(List α))(a1:Int):(Int×(List α))->Option ((Int×(List α))⊕(List α))
 |(v3,v4)=>((bif (decide (v3>(a1:Int)))then bif b9 v3 a0.length then(bo v4 ((0:Nat)+v3:Int)).bind λx1=>bif b9 (i64.wrap (v3 -1)) a0.length then(bo v4 ((0:Nat)+(i64.wrap (v3 -1)):Int)).bind λx2=>(C x1 x2).bind λr1=>some (q r1)else none else none else some false):Option (Bool)).bind λv5=>(bif v5 then bif b9 (i64.wrap (v3 -1)) a0.length then(bo v4 ((0:Nat)+(i64.wrap (v3 -1)):Int)).bind λx3=>bif b9 v3 a0.length then(bo v4 ((0:Nat)+v3:Int)).bind λx4=>bif b9 v3 a0.length then(bo v4 ((0:Nat)+v3:Int)).bind λx5=>bif b9 (i64.wrap (v3 -1)) a0.length then(bo (v4.set ((0:Nat)+v3:Int).toNat x3) ((0:Nat)+(i64.wrap (v3 -1)):Int)).bind λx6=>some (.inl ((i64.wrap (v3 -1)),((v4.set ((0:Nat)+v3:Int).toNat x3).set ((0:Nat)+(i64.wrap (v3 -1)):Int).toNat x4)))else none else none else none else none else some (.inr v4))
def jq(C:α->α->Option R)(q:R->Bool)(n:Nat)(a0:(List α))(a1:Int)(a2:Int):(Int×(List α))->Option ((Int×(List α))⊕(List α))
 |(v1,v2)=>(bif (decide (v1<(a2:Int)))then(iter (iB C q a0 a1) n (v1,v2)).bind λw1=>some (.inl ((i64.wrap (v1+1)),w1))else some (.inr v2))
def nJ(C:α->α->Option R)(q:R->Bool)(n:Nat)(a0:(List α))(a1:Int)(a2:Int):Option (List α):=
 (iter (jq C q n a0 a1 a2) n ((i64.wrap (a1+1)),a0)).bind λw2=>some w2
def fP(C:α->α->Option R)(q:R->Bool)(a0:(List α))(a2:Int)(a3:Int):(Int×(List α))->Option ((Int×(List α))⊕((List α)⊕(List α)))
 |(v1,v2)=>(bif (decide ((i64.wrap ((i64.wrap (2*v1))+1))>=(a2:Int)))then some (.inr (.inl v2))else(((bif (decide ((i64.wrap ((i64.wrap ((i64.wrap (2*v1))+1))+1))<(a2:Int)))then bif b9 (i64.wrap (a3+(i64.wrap ((i64.wrap (2*v1))+1)))) a0.length then(bo v2 ((0:Nat)+(i64.wrap (a3+(i64.wrap ((i64.wrap (2*v1))+1)))):Int)).bind λx1=>bif b9 (i64.wrap ((i64.wrap (a3+(i64.wrap ((i64.wrap (2*v1))+1))))+1)) a0.length then(bo v2 ((0:Nat)+(i64.wrap ((i64.wrap (a3+(i64.wrap ((i64.wrap (2*v1))+1))))+1)):Int)).bind λx2=>(C x1 x2).bind λr1=>some (q r1)else none else none else some false):Option (Bool)).bind λv3=>(bif v3 then some (i64.wrap ((i64.wrap ((i64.wrap (2*v1))+1))+1))else some (i64.wrap ((i64.wrap (2*v1))+1))):Option (Int)).bind λv4=>bif b9 (i64.wrap (a3+v1)) a0.length then(bo v2 ((0:Nat)+(i64.wrap (a3+v1)):Int)).bind λx3=>bif b9 (i64.wrap (a3+v4)) a0.length then(bo v2 ((0:Nat)+(i64.wrap (a3+v4)):Int)).bind λx4=>(C x3 x4).bind λr2=>(bif (!(q r2))then(some v2).map λa=> .inr (.inr a)else bif b9 (i64.wrap (a3+v4)) a0.length then(bo v2 ((0:Nat)+(i64.wrap (a3+v4)):Int)).bind λx5=>bif b9 (i64.wrap (a3+v1)) a0.length then(bo v2 ((0:Nat)+(i64.wrap (a3+v1)):Int)).bind λx6=>bif b9 (i64.wrap (a3+v1)) a0.length then(bo v2 ((0:Nat)+(i64.wrap (a3+v1)):Int)).bind λx7=>bif b9 (i64.wrap (a3+v4)) a0.length then(bo (v2.set ((0:Nat)+(i64.wrap (a3+v1)):Int).toNat x5) ((0:Nat)+(i64.wrap (a3+v4)):Int)).bind λx8=>some (.inl (v4,((v2.set ((0:Nat)+(i64.wrap (a3+v1)):Int).toNat x5).set ((0:Nat)+(i64.wrap (a3+v4)):Int).toNat x6)))else none else none else none else none)else none else none)
def tN(C:α->α->Option R)(q:R->Bool)(n:Nat)(a0:(List α))(a1:Int)(a2:Int)(a3:Int):Option (List α):=
 dw (iter (fP C q a0 a2 a3) n (a1,a0)) λw1=>some w1
def uD(C:α->α->Option R)(q:R->Bool)(n:Nat)(a0:(List α))(a1:Int)(a2:Int):(Int×(List α))->Option ((Int×(List α))⊕(List α))
 |(v1,v2)=>(bif (decide (v1>=(0:Int)))then bif bk a0.length v2.length then(tN C q n v2 v1 (i64.wrap (a2 -a1)) a1).bind λr1=>some (.inl ((i64.wrap (v1 -1)),r1))else none else some (.inr v2))
def uE(C:α->α->Option R)(q:R->Bool)(n:Nat)(a0:(List α))(a1:Int):(Int×(List α))->Option ((Int×(List α))⊕(List α))
 |(v3,v4)=>(bif (decide (v3>=(0:Int)))then bif b9 (i64.wrap (a1+v3)) a0.length then(bo v4 ((0:Nat)+(i64.wrap (a1+v3)):Int)).bind λx1=>bif b9 a1 a0.length then(bo v4 ((0:Nat)+a1:Int)).bind λx2=>bif b9 a1 a0.length then(bo v4 ((0:Nat)+a1:Int)).bind λx3=>bif b9 (i64.wrap (a1+v3)) a0.length then(bo (v4.set ((0:Nat)+a1:Int).toNat x1) ((0:Nat)+(i64.wrap (a1+v3)):Int)).bind λx4=>bif bk a0.length ((v4.set ((0:Nat)+a1:Int).toNat x1).set ((0:Nat)+(i64.wrap (a1+v3)):Int).toNat x2).length then(tN C q n ((v4.set ((0:Nat)+a1:Int).toNat x1).set ((0:Nat)+(i64.wrap (a1+v3)):Int).toNat x2) 0 v3 a1).bind λr2=>some (.inl ((i64.wrap (v3 -1)),r2))else none else none else none else none else none else some (.inr v4))
def Ae(C:α->α->Option R)(q:R->Bool)(n:Nat)(a0:(List α))(a1:Int)(a2:Int):Option (List α):=
 bif 2 !=0 then(iter (uD C q n a0 a1 a2) n ((i64.wrap (Int.tdiv (i64.wrap ((i64.wrap (a2 -a1)) -1)) 2)),a0)).bind λw1=>(iter (uE C q n a0 a1) n ((i64.wrap ((i64.wrap (a2 -a1)) -1)),w1)).bind λw2=>some w2 else none
def lY(ju:Int->Option Int)(lv:Int->Option (Int×Int))(a0:(List α))(a1:Int)(a2:Int)(r1:Int):(Int×(List α)×Int)->Option ((Int×(List α)×Int)⊕(List α))
 |(v1,v2,v3)=>bif 4 !=0 then(bif (decide (v1<=((i64.wrap ((i64.wrap (a1+(i64.wrap ((i64.wrap (Int.tdiv (i64.wrap (a2 -a1)) 4))*2))))+1)):Int)))then(lv v3).bind λr2=>((bif (decide ((i64.wrap (bits .and .u64 r2.1 (IntKind.u64.wrap (r1 -1))))>=((i64.wrap (a2 -a1)):Int)))then some (i64.wrap ((i64.wrap (bits .and .u64 r2.1 (IntKind.u64.wrap (r1 -1)))) -(i64.wrap (a2 -a1))))else some (i64.wrap (bits .and .u64 r2.1 (IntKind.u64.wrap (r1 -1))))):Option (Int)).bind λv4=>bif b9 (i64.wrap (a1+v4)) a0.length then(bo v2 ((0:Nat)+(i64.wrap (a1+v4)):Int)).bind λx1=>bif b9 v1 a0.length then(bo v2 ((0:Nat)+v1:Int)).bind λx2=>bif b9 v1 a0.length then(bo v2 ((0:Nat)+v1:Int)).bind λx3=>bif b9 (i64.wrap (a1+v4)) a0.length then(bo (v2.set ((0:Nat)+v1:Int).toNat x1) ((0:Nat)+(i64.wrap (a1+v4)):Int)).bind λx4=>some (.inl ((i64.wrap (v1+1)),((v2.set ((0:Nat)+v1:Int).toNat x1).set ((0:Nat)+(i64.wrap (a1+v4)):Int).toNat x2),r2.2))else none else none else none else none else some (.inr v2))else none
def kI(ju:Int->Option Int)(lv:Int->Option (Int×Int))(n:Nat)(a0:(List α))(a1:Int)(a2:Int):Option (List α):=
 (bif (decide ((i64.wrap (a2 -a1))>=(8:Int)))then(ju (i64.wrap (a2 -a1))).bind λr1=>bif 4 !=0 then(iter (lY ju lv a0 a1 a2 r1) n ((i64.wrap ((i64.wrap (a1+(i64.wrap ((i64.wrap (Int.tdiv (i64.wrap (a2 -a1)) 4))*2)))) -1)),a0,(IntKind.u64.wrap (i64.wrap (a2 -a1))))).bind λw1=>some w1 else none else some a0)
def CK(C:α->α->Option R)(q:R->Bool)(a0:(List α))(a1:Int)(a2:Int)(a3:Int):Option (Int×Int×Int):=
 (bo a0 a2).bind λx1=>(bo a0 a1).bind λx2=>(C x1 x2).bind λr1=>(bif q r1 then some (a2,a1,(i64.wrap (a3+1)))else some (a1,a2,a3))
def zq(C:α->α->Option R)(q:R->Bool)(a0:(List α))(a1:Int)(a2:Int)(a3:Int)(a4:Int):Option (Int×Int):=
 (CK C q a0 a1 a2 a4).bind λr1=>(CK C q a0 r1.2.1 a3 r1.2.2).bind λr2=>(CK C q a0 r1.1 r2.1 r2.2.2).bind λr3=>some (r3.2.1,r3.2.2)
def eT(C:α->α->Option R)(q:R->Bool)(a0:(List α))(a1:Int)(a2:Int):Option (Int×Int):=
 (zq C q a0 (i64.wrap (a1 -1)) a1 (i64.wrap (a1+1)) a2).bind λr1=>some (r1.1,r1.2)
def qg(C:α->α->Option R)(q:R->Bool)(a0:(List α))(a1:Int)(a2:Int):Option (Int×Int):=
 bif 4 !=0 then bif 4 !=0 then bif 4 !=0 then((bif (decide ((i64.wrap (a2 -a1))>=(8:Int)))then((bif (decide ((i64.wrap (a2 -a1))>=(50:Int)))then(eT C q a0 (i64.wrap (a1+(i64.wrap ((i64.wrap (Int.tdiv (i64.wrap (a2 -a1)) 4))*1)))) 0).bind λr1=>(eT C q a0 (i64.wrap (a1+(i64.wrap ((i64.wrap (Int.tdiv (i64.wrap (a2 -a1)) 4))*2)))) r1.2).bind λr2=>(eT C q a0 (i64.wrap (a1+(i64.wrap ((i64.wrap (Int.tdiv (i64.wrap (a2 -a1)) 4))*3)))) r2.2).bind λr3=>some (r1.1,r2.1,r3.1,r3.2)else some ((i64.wrap (a1+(i64.wrap ((i64.wrap (Int.tdiv (i64.wrap (a2 -a1)) 4))*1)))),(i64.wrap (a1+(i64.wrap ((i64.wrap (Int.tdiv (i64.wrap (a2 -a1)) 4))*2)))),(i64.wrap (a1+(i64.wrap ((i64.wrap (Int.tdiv (i64.wrap (a2 -a1)) 4))*3)))),(0:Int))):Option (Int×Int×Int×Int)).bind λ(v1,v2,v3,v4)=>(zq C q a0 v1 v2 v3 v4).bind λr4=>some (r4.1,r4.2)else some ((i64.wrap (a1+(i64.wrap ((i64.wrap (Int.tdiv (i64.wrap (a2 -a1)) 4))*2)))),(0:Int))):Option (Int×Int)).bind λ(v5,v6)=>(bif (v6==(0:Int))then some (v5,(1:Int))else(bif (v6==(12:Int))then some (v5,(2:Int))else some (v5,(0:Int))))else none else none else none
def kg(a0:(List α)):(Int×Int×(List α))->Option ((Int×Int×(List α))⊕(List α))
 |(v1,v2,v3)=>(bif (decide (v1<(v2:Int)))then bif b9 v2 a0.length then(bo v3 ((0:Nat)+v2:Int)).bind λx1=>bif b9 v1 a0.length then(bo v3 ((0:Nat)+v1:Int)).bind λx2=>bif b9 v1 a0.length then(bo v3 ((0:Nat)+v1:Int)).bind λx3=>bif b9 v2 a0.length then(bo (v3.set ((0:Nat)+v1:Int).toNat x1) ((0:Nat)+v2:Int)).bind λx4=>some (.inl ((i64.wrap (v1+1)),(i64.wrap (v2 -1)),((v3.set ((0:Nat)+v1:Int).toNat x1).set ((0:Nat)+v2:Int).toNat x2)))else none else none else none else none else some (.inr v3))
def mO(n:Nat)(a0:(List α))(a1:Int)(a2:Int):Option (List α):=
 (iter (kg a0) n (a1,(i64.wrap (a2 -1)),a0)).bind λw1=>some w1
def d9(C:α->α->Option R)(q:R->Bool)(a0:(List α))(a2:Int)(v3:(List α)):Int->Option (Int⊕Int)
 |v4=>((bif (decide (v4<(a2:Int)))then bif b9 v4 a0.length then(bo v3 ((0:Nat)+v4:Int)).bind λx1=>bif b9 (i64.wrap (v4 -1)) a0.length then(bo v3 ((0:Nat)+(i64.wrap (v4 -1)):Int)).bind λx2=>(C x1 x2).bind λr1=>some (!(q r1))else none else none else some false):Option (Bool)).bind λv5=>(bif v5 then some (.inl (i64.wrap (v4+1)))else some (.inr v4))
def eu(C:α->α->Option R)(q:R->Bool)(a0:(List α)):(Int×(List α))->Option ((Int×(List α))⊕(List α))
 |(v6,v7)=>(bif (decide (v6>=(1:Int)))then bif b9 v6 a0.length then(bo v7 ((0:Nat)+v6:Int)).bind λx7=>bif b9 (i64.wrap (v6 -1)) a0.length then(bo v7 ((0:Nat)+(i64.wrap (v6 -1)):Int)).bind λx8=>(C x7 x8).bind λr2=>(bif (!(q r2))then some (.inr v7)else bif b9 (i64.wrap (v6 -1)) a0.length then(bo v7 ((0:Nat)+(i64.wrap (v6 -1)):Int)).bind λx9=>bif b9 v6 a0.length then(bo v7 ((0:Nat)+v6:Int)).bind λx10=>bif b9 v6 a0.length then(bo v7 ((0:Nat)+v6:Int)).bind λX2=>bif b9 (i64.wrap (v6 -1)) a0.length then(bo (v7.set ((0:Nat)+v6:Int).toNat x9) ((0:Nat)+(i64.wrap (v6 -1)):Int)).bind λX1=>some (.inl ((i64.wrap (v6 -1)),((v7.set ((0:Nat)+v6:Int).toNat x9).set ((0:Nat)+(i64.wrap (v6 -1)):Int).toNat x10)))else none else none else none else none)else none else none else some (.inr v7))
def dK(C:α->α->Option R)(q:R->Bool)(a0:(List α))(a2:Int):(Int×(List α))->Option ((Int×(List α))⊕(List α))
 |(v9,v10)=>(bif (decide (v9<(a2:Int)))then bif b9 v9 a0.length then(bo v10 ((0:Nat)+v9:Int)).bind λIt=>bif b9 (i64.wrap (v9 -1)) a0.length then(bo v10 ((0:Nat)+(i64.wrap (v9 -1)):Int)).bind λNx=>(C It Nx).bind λr3=>(bif (!(q r3))then some (.inr v10)else bif b9 (i64.wrap (v9 -1)) a0.length then(bo v10 ((0:Nat)+(i64.wrap (v9 -1)):Int)).bind λNo=>bif b9 v9 a0.length then(bo v10 ((0:Nat)+v9:Int)).bind λXX=>bif b9 v9 a0.length then(bo v10 ((0:Nat)+v9:Int)).bind λXS=>bif b9 (i64.wrap (v9 -1)) a0.length then(bo (v10.set ((0:Nat)+v9:Int).toNat No) ((0:Nat)+(i64.wrap (v9 -1)):Int)).bind λx18=>some (.inl ((i64.wrap (v9+1)),((v10.set ((0:Nat)+v9:Int).toNat No).set ((0:Nat)+(i64.wrap (v9 -1)):Int).toNat XX)))else none else none else none else none)else none else none else some (.inr v10))
def dL(C:α->α->Option R)(q:R->Bool)(n:Nat)(a0:(List α))(a1:Int)(a2:Int):(Int×Int×(List α))->Option ((Int×Int×(List α))⊕((List α)⊕(Bool×(List α))))
 |(v1,v2,v3)=>(bif (decide (v2<(5:Int)))then dw ((iter (d9 C q a0 a2 v3) n v1).bind λw1=>(bif (w1==(a2:Int))then((some (true,v3)).map λa=> .inr (.inr a)).map .inr else(bif (decide ((i64.wrap (a2 -a1))<(50:Int)))then((some (false,v3)).map λa=> .inr (.inr a)).map .inr else bif b9 (i64.wrap (w1 -1)) a0.length then(bo v3 ((0:Nat)+(i64.wrap (w1 -1)):Int)).bind λx3=>bif b9 w1 a0.length then(bo v3 ((0:Nat)+w1:Int)).bind λx4=>bif b9 w1 a0.length then(bo v3 ((0:Nat)+w1:Int)).bind λx5=>bif b9 (i64.wrap (w1 -1)) a0.length then(bo (v3.set ((0:Nat)+w1:Int).toNat x3) ((0:Nat)+(i64.wrap (w1 -1)):Int)).bind λx6=>((bif (decide ((i64.wrap (w1 -a1))>=(2:Int)))then(iter (eu C q a0) n ((i64.wrap (w1 -1)),((v3.set ((0:Nat)+w1:Int).toNat x3).set ((0:Nat)+(i64.wrap (w1 -1)):Int).toNat x4))).bind λw2=>some w2 else some ((v3.set ((0:Nat)+w1:Int).toNat x3).set ((0:Nat)+(i64.wrap (w1 -1)):Int).toNat x4)):Option ((List α))).bind λv8=>(bif (decide ((i64.wrap (a2 -w1))>=(2:Int)))then(iter (dK C q a0 a2) n ((i64.wrap (w1+1)),v8)).bind λw3=>some (.inl (w1,w3))else some (.inl (w1,v8)))else none else none else none else none)):Option ((Int×(List α))⊕_)) λ(v11,v12)=>some (.inl (v11,(i64.wrap (v2+1)),v12))else some (.inr (.inl v3)))
def fE(C:α->α->Option R)(q:R->Bool)(n:Nat)(a0:(List α))(a1:Int)(a2:Int):Option (Bool×(List α)):=
 dw (iter (dL C q n a0 a1 a2) n ((i64.wrap (a1+1)),(0:Int),a0)) λw4=>some (false,w4)
def nW(C:α->α->Option R)(q:R->Bool)(a0:(List α))(a1:Int)(v2:Int)(v3:(List α)):Int->Option (Int⊕Int)
 |v4=>((bif (decide (v4<=(v2:Int)))then bif b9 a1 a0.length then(bo v3 ((0:Nat)+a1:Int)).bind λx5=>bif b9 v4 a0.length then(bo v3 ((0:Nat)+v4:Int)).bind λx6=>(C x5 x6).bind λr1=>some (!(q r1))else none else none else some false):Option (Bool)).bind λv5=>(bif v5 then some (.inl (i64.wrap (v4+1)))else some (.inr v4))
def nX(C:α->α->Option R)(q:R->Bool)(a0:(List α))(a1:Int)(v3:(List α))(w1:Int):Int->Option (Int⊕Int)
 |v6=>((bif (decide (w1<=(v6:Int)))then bif b9 a1 a0.length then(bo v3 ((0:Nat)+a1:Int)).bind λx7=>bif b9 v6 a0.length then(bo v3 ((0:Nat)+v6:Int)).bind λx8=>(C x7 x8).bind λr2=>some (q r2)else none else none else some false):Option (Bool)).bind λv7=>(bif v7 then some (.inl (i64.wrap (v6 -1)))else some (.inr v6))
def iW(C:α->α->Option R)(q:R->Bool)(n:Nat)(a0:(List α))(a1:Int):(Int×Int×(List α))->Option ((Int×Int×(List α))⊕(Int×(List α)))
 |(v1,v2,v3)=>(iter (nW C q a0 a1 v2 v3) n v1).bind λw1=>(iter (nX C q a0 a1 v3 w1) n v2).bind λw2=>(bif (decide (w1>(w2:Int)))then some (.inr (w1,v3))else bif b9 w2 a0.length then(bo v3 ((0:Nat)+w2:Int)).bind λx9=>bif b9 w1 a0.length then(bo v3 ((0:Nat)+w1:Int)).bind λx10=>bif b9 w1 a0.length then(bo v3 ((0:Nat)+w1:Int)).bind λX2=>bif b9 w2 a0.length then(bo (v3.set ((0:Nat)+w1:Int).toNat x9) ((0:Nat)+w2:Int)).bind λX1=>some (.inl ((i64.wrap (w1+1)),(i64.wrap (w2 -1)),((v3.set ((0:Nat)+w1:Int).toNat x9).set ((0:Nat)+w2:Int).toNat x10)))else none else none else none else none)
def jC(C:α->α->Option R)(q:R->Bool)(n:Nat)(a0:(List α))(a1:Int)(a2:Int)(a3:Int):Option (Int×(List α)):=
 bif b9 a3 a0.length then(bo a0 ((0:Nat)+a3:Int)).bind λx1=>bif b9 a1 a0.length then(bo a0 ((0:Nat)+a1:Int)).bind λx2=>bif b9 a1 a0.length then(bo a0 ((0:Nat)+a1:Int)).bind λx3=>bif b9 a3 a0.length then(bo (a0.set ((0:Nat)+a1:Int).toNat x1) ((0:Nat)+a3:Int)).bind λx4=>(iter (iW C q n a0 a1) n ((i64.wrap (a1+1)),(i64.wrap (a2 -1)),((a0.set ((0:Nat)+a1:Int).toNat x1).set ((0:Nat)+a3:Int).toNat x2))).bind λ(w3,w4)=>some (w3,w4)else none else none else none else none
def rD(C:α->α->Option R)(q:R->Bool)(a0:(List α))(a1:Int)(a2:Int)(a3:Int)(x1:α)(x2:α):Int->Option (Int⊕Int)
 |v1=>((bif (decide (v1<=((i64.wrap (a2 -1)):Int)))then bif b9 v1 a0.length then(bo ((a0.set ((0:Nat)+a1:Int).toNat x1).set ((0:Nat)+a3:Int).toNat x2) ((0:Nat)+v1:Int)).bind λx5=>bif b9 a1 a0.length then(bo ((a0.set ((0:Nat)+a1:Int).toNat x1).set ((0:Nat)+a3:Int).toNat x2) ((0:Nat)+a1:Int)).bind λx6=>(C x5 x6).bind λr1=>some (q r1)else none else none else some false):Option (Bool)).bind λv2=>(bif v2 then some (.inl (i64.wrap (v1+1)))else some (.inr v1))
def rE(C:α->α->Option R)(q:R->Bool)(a0:(List α))(a1:Int)(a3:Int)(x1:α)(x2:α)(w1:Int):Int->Option (Int⊕Int)
 |v3=>((bif (decide (w1<=(v3:Int)))then bif b9 v3 a0.length then(bo ((a0.set ((0:Nat)+a1:Int).toNat x1).set ((0:Nat)+a3:Int).toNat x2) ((0:Nat)+v3:Int)).bind λx7=>bif b9 a1 a0.length then(bo ((a0.set ((0:Nat)+a1:Int).toNat x1).set ((0:Nat)+a3:Int).toNat x2) ((0:Nat)+a1:Int)).bind λx8=>(C x7 x8).bind λr2=>some (!(q r2))else none else none else some false):Option (Bool)).bind λv4=>(bif v4 then some (.inl (i64.wrap (v3 -1)))else some (.inr v3))
def mQ(C:α->α->Option R)(q:R->Bool)(a0:(List α))(a1:Int)(v6:Int)(v7:(List α)):Int->Option (Int⊕Int)
 |v8=>((bif (decide (v8<=(v6:Int)))then bif b9 v8 a0.length then(bo v7 ((0:Nat)+v8:Int)).bind λXS=>bif b9 a1 a0.length then(bo v7 ((0:Nat)+a1:Int)).bind λx18=>(C XS x18).bind λr3=>some (q r3)else none else none else some false):Option (Bool)).bind λv9=>(bif v9 then some (.inl (i64.wrap (v8+1)))else some (.inr v8))
def mR(C:α->α->Option R)(q:R->Bool)(a0:(List α))(a1:Int)(v7:(List α))(w3:Int):Int->Option (Int⊕Int)
 |v10=>((bif (decide (w3<=(v10:Int)))then bif b9 v10 a0.length then(bo v7 ((0:Nat)+v10:Int)).bind λx19=>bif b9 a1 a0.length then(bo v7 ((0:Nat)+a1:Int)).bind λx20=>(C x19 x20).bind λr4=>some (!(q r4))else none else none else some false):Option (Bool)).bind λv11=>(bif v11 then some (.inl (i64.wrap (v10 -1)))else some (.inr v10))
def oM(C:α->α->Option R)(q:R->Bool)(n:Nat)(a0:(List α))(a1:Int):(Int×Int×(List α))->Option ((Int×Int×(List α))⊕(Int×(List α)))
 |(v5,v6,v7)=>(iter (mQ C q a0 a1 v6 v7) n v5).bind λw3=>(iter (mR C q a0 a1 v7 w3) n v6).bind λw4=>(bif (decide (w3>(w4:Int)))then some (.inr (w4,v7))else bif b9 w4 a0.length then(bo v7 ((0:Nat)+w4:Int)).bind λx21=>bif b9 w3 a0.length then(bo v7 ((0:Nat)+w3:Int)).bind λx22=>bif b9 w3 a0.length then(bo v7 ((0:Nat)+w3:Int)).bind λx23=>bif b9 w4 a0.length then(bo (v7.set ((0:Nat)+w3:Int).toNat x21) ((0:Nat)+w4:Int)).bind λx24=>some (.inl ((i64.wrap (w3+1)),(i64.wrap (w4 -1)),((v7.set ((0:Nat)+w3:Int).toNat x21).set ((0:Nat)+w4:Int).toNat x22)))else none else none else none else none)
def sN(C:α->α->Option R)(q:R->Bool)(n:Nat)(a0:(List α))(a1:Int)(a2:Int)(a3:Int):Option (Int×Bool×(List α)):=
 bif b9 a3 a0.length then(bo a0 ((0:Nat)+a3:Int)).bind λx1=>bif b9 a1 a0.length then(bo a0 ((0:Nat)+a1:Int)).bind λx2=>bif b9 a1 a0.length then(bo a0 ((0:Nat)+a1:Int)).bind λx3=>bif b9 a3 a0.length then(bo (a0.set ((0:Nat)+a1:Int).toNat x1) ((0:Nat)+a3:Int)).bind λx4=>(iter (rD C q a0 a1 a2 a3 x1 x2) n (i64.wrap (a1+1))).bind λw1=>(iter (rE C q a0 a1 a3 x1 x2 w1) n (i64.wrap (a2 -1))).bind λw2=>(bif (decide (w1>(w2:Int)))then bif b9 a1 a0.length then(bo ((a0.set ((0:Nat)+a1:Int).toNat x1).set ((0:Nat)+a3:Int).toNat x2) ((0:Nat)+a1:Int)).bind λx9=>bif b9 w2 a0.length then(bo ((a0.set ((0:Nat)+a1:Int).toNat x1).set ((0:Nat)+a3:Int).toNat x2) ((0:Nat)+w2:Int)).bind λx10=>bif b9 w2 a0.length then(bo ((a0.set ((0:Nat)+a1:Int).toNat x1).set ((0:Nat)+a3:Int).toNat x2) ((0:Nat)+w2:Int)).bind λX2=>bif b9 a1 a0.length then(bo (((a0.set ((0:Nat)+a1:Int).toNat x1).set ((0:Nat)+a3:Int).toNat x2).set ((0:Nat)+w2:Int).toNat x9) ((0:Nat)+a1:Int)).bind λX1=>some (w2,true,((((a0.set ((0:Nat)+a1:Int).toNat x1).set ((0:Nat)+a3:Int).toNat x2).set ((0:Nat)+w2:Int).toNat x9).set ((0:Nat)+a1:Int).toNat x10))else none else none else none else none else bif b9 w2 a0.length then(bo ((a0.set ((0:Nat)+a1:Int).toNat x1).set ((0:Nat)+a3:Int).toNat x2) ((0:Nat)+w2:Int)).bind λIt=>bif b9 w1 a0.length then(bo ((a0.set ((0:Nat)+a1:Int).toNat x1).set ((0:Nat)+a3:Int).toNat x2) ((0:Nat)+w1:Int)).bind λNx=>bif b9 w1 a0.length then(bo ((a0.set ((0:Nat)+a1:Int).toNat x1).set ((0:Nat)+a3:Int).toNat x2) ((0:Nat)+w1:Int)).bind λNo=>bif b9 w2 a0.length then(bo (((a0.set ((0:Nat)+a1:Int).toNat x1).set ((0:Nat)+a3:Int).toNat x2).set ((0:Nat)+w1:Int).toNat It) ((0:Nat)+w2:Int)).bind λXX=>(iter (oM C q n a0 a1) n ((i64.wrap (w1+1)),(i64.wrap (w2 -1)),((((a0.set ((0:Nat)+a1:Int).toNat x1).set ((0:Nat)+a3:Int).toNat x2).set ((0:Nat)+w1:Int).toNat It).set ((0:Nat)+w2:Int).toNat Nx))).bind λ(w5,w6)=>bif b9 a1 a0.length then(bo w6 ((0:Nat)+a1:Int)).bind λx25=>bif b9 w5 a0.length then(bo w6 ((0:Nat)+w5:Int)).bind λx26=>bif b9 w5 a0.length then(bo w6 ((0:Nat)+w5:Int)).bind λx27=>bif b9 a1 a0.length then(bo (w6.set ((0:Nat)+w5:Int).toNat x25) ((0:Nat)+a1:Int)).bind λx28=>some (w5,false,((w6.set ((0:Nat)+w5:Int).toNat x25).set ((0:Nat)+a1:Int).toNat x26))else none else none else none else none else none else none else none else none)else none else none else none else none
def tO(C:α->α->Option R)(q:R->Bool)(ju:Int->Option Int)(lv:Int->Option (Int×Int))(n:Nat)(rc:((List α))->(Int)->(Int)->(Int)->Option (List α))(a0:(List α)):(Int×Int×Int×Bool×Bool×(List α))->Option ((Int×Int×Int×Bool×Bool×(List α))⊕(Unit⊕(List α)))
 |(v1,v2,v3,v4,v5,v6)=>(bif (decide ((i64.wrap (v2 -v1))<=(12:Int)))then bif bk a0.length v6.length then(nJ C q n v6 v1 v2).bind λr1=>(some r1).map λa=> .inr (.inr a)else none else(bif (v3==(0:Int))then bif bk a0.length v6.length then(Ae C q n v6 v1 v2).bind λr2=>(some r2).map λa=> .inr (.inr a)else none else((bif (!v4)then bif bk a0.length v6.length then(kI ju lv n v6 v1 v2).bind λr3=>some ((i64.wrap (v3 -1)),r3)else none else some (v3,v6)):Option (Int×(List α))).bind λ(v7,v8)=>bif bk (sub v8 0 a0.length).length a0.length then(qg C q (sub v8 0 a0.length) v1 v2).bind λr4=>((bif (r4.2==(2:Int))then bif bk a0.length v8.length then(mO n v8 v1 v2).bind λr5=>some ((i64.wrap ((i64.wrap (v2 -1)) -(i64.wrap (r4.1 -v1)))),(1:Int),r5)else none else some (r4.1,r4.2,v8)):Option (Int×Int×(List α))).bind λ(v9,v10,v11)=>dw (((bif v4 then(bif v5 then some (v10==(1:Int))else some false)else some false):Option (Bool)).bind λv12=>(bif v12 then bif bk a0.length v11.length then(fE C q n v11 v1 v2).bind λr6=>(bif r6.1 then((some r6.2).map λa=> .inr (.inr a)).map .inr else some (.inl r6.2))else none else some (.inl v11))) λ(v13:(List α))=>((bif (decide (v1>(0:Int)))then bif b9 (i64.wrap (v1 -1)) a0.length then(bo v13 ((0:Nat)+(i64.wrap (v1 -1)):Int)).bind λx1=>bif b9 v9 a0.length then(bo v13 ((0:Nat)+v9:Int)).bind λx2=>(C x1 x2).bind λr7=>some (!(q r7))else none else none else some false):Option (Bool)).bind λv14=>(bif v14 then bif bk a0.length v13.length then(jC C q n v13 v1 v2 v9).bind λr8=>some (.inl (r8.1,v2,v7,v4,v5,r8.2))else none else bif bk a0.length v13.length then(sN C q n v13 v1 v2 v9).bind λr9=>bif 8 !=0 then(bif (decide ((i64.wrap (r9.1 -v1))<((i64.wrap (v2 -r9.1)):Int)))then bif bk a0.length r9.2.2.length then(rc r9.2.2 v1 r9.1 v7).bind λtx=>some (.inl ((i64.wrap (r9.1+1)),v2,v7,(decide ((i64.wrap (r9.1 -v1))>=((i64.wrap (Int.tdiv (i64.wrap (v2 -v1)) 8)):Int))),r9.2.1,tx))else none else bif bk a0.length r9.2.2.length then(rc r9.2.2 (i64.wrap (r9.1+1)) v2 v7).bind λkO=>some (.inl (v1,r9.1,v7,(decide ((i64.wrap (v2 -r9.1))>=((i64.wrap (Int.tdiv (i64.wrap (v2 -v1)) 8)):Int))),r9.2.1,kO))else none)else none else none)else none))
def kJ(C:α->α->Option R)(q:R->Bool)(ju:Int->Option Int)(lv:Int->Option (Int×Int))(n:Nat)(rc:((List α))->(Int)->(Int)->(Int)->Option (List α))(a0:(List α))(a1:Int)(a2:Int)(a3:Int):Option (List α):=
 dw (iter (tO C q ju lv n rc a0) n (a1,a2,a3,true,true,a0)) λ()=>none
def iX(C:α->α->Option R)(q:R->Bool)(ju:Int->Option Int)(lv:Int->Option (Int×Int))(n:Nat):Nat->((List α))->(Int)->(Int)->(Int)->Option (List α)
 | 0=>λ_ _ _ _=>none
 |m+1=>kJ C q ju lv n (iX C q ju lv n m)
end
open Go.RowKit Go.Sort
section
variable {α R:Type} [Inhabited α]
theorem fQ{d:Array α}{i:Nat}(h:i<d.size):bo d.toList (((0:Nat):Int)+(i:Int))=some d[i]! :=by rw[zm,Array.getElem?_toList,Array.getElem?_eq_getElem h,getElem!_pos d i h]
theorem ana{d:Array α}{i:Nat}(h:i<d.size):bo d.toList (i:Int)=some d[i]! :=by rw[L5,Array.getElem?_toList,Array.getElem?_eq_getElem h,getElem!_pos d i h]
omit [Inhabited α]in
theorem GZ(d:Array α)(i:Nat)(x:α):d.toList.set (((0:Nat):Int)+(i:Int)).toNat x=(d.setIfInBounds i x).toList:=by rw[show (((0:Nat):Int)+(i:Int)).toNat=i by omega,Array.toList_setIfInBounds]
theorem Ko{d:Array α}{i k:Nat}{x:α}(h:i<d.size):bo (d.setIfInBounds k x).toList (((0:Nat):Int)+(i:Int))=some (d.setIfInBounds k x)[i]! :=fQ (by simpa using h)
theorem Kq(d:Array α)(i j:Nat):((d.setIfInBounds i d[j]!).setIfInBounds j d[i]!).toList=(swp d i j).toList:=rfl
theorem w1{i:Nat}(h0:0<i)(h:i<=9223372036854775807):i64.wrap ((i:Int) -1)=((i -1:Nat):Int):=lC h0 h
theorem Pf{i j:Nat}(h:i+j<=9223372036854775807):i64.wrap ((i:Int)+(j:Int))=((i+j:Nat):Int):=by rw[bU (by omega) (by omega)];omega
theorem Kr{i j:Nat}(h0:j<=i)(h:i<=9223372036854775807):i64.wrap ((i:Int) -(j:Int))=((i -j:Nat):Int):=by rw[bU (by omega) (by omega)];omega
theorem kX{i n:Nat}(h:i<n):b9 (i:Int) n=true:=by simp[h]
theorem XQ{a b:Nat}(h:a=b):bk a b=true:=by simp[bk,h]
variable {C:α->α->Option R} {q:R->Bool} {f:α->α->R} {lt:α->α->Bool}
theorem rF(a:Nat):∀(j:Nat)(d:Array α),(insInner lt a j d).size=d.size
 | 0,d=>rfl
 |j+1,d=>by
  simp only[insInner];split
  ·rw[rF a j,size_swp]
  ·rfl
theorem abf(hC:∀x y,C x y=some (f x y))(hq:∀x y,q (f x y)=lt x y)(a0:List α)(a:Nat):∀(j:Nat)(d:Array α)(n:Nat),a0.length=d.size->d.size<4611686018427387904->j<d.size->j<n->
 iter (iB C q a0 (a:Int)) n ((j:Int),d.toList)=some (insInner lt a j d).toList
 | 0,d,n,h0,hs,hj,hn=>by
  obtain⟨n,rfl⟩:∃m,n=m+1:=⟨n -1,by omega⟩;refine bJ ?_;have c:decide (((0:Nat):Int)>(a:Int))=false:=by simp
  simp only[iB,c,ak,ah,insInner]
 |j+1,d,n,h0,hs,hj,hn=>by
  obtain⟨n,rfl⟩:∃m,n=m+1:=⟨n -1,by omega⟩;have e:i64.wrap (((j+1:Nat):Int) -1)=(j:Int):=by rw[w1 (by omega) (by omega)];rfl
  have hj2:j<d.size:=by omega
  have i1:b9 (((j+1:Nat)):Int) a0.length=true:=kX (by omega);have i2:b9 (j:Int) a0.length=true:=kX (by omega);by_cases c:j+1>a
  ·have c1:decide (((j+1:Nat):Int)>(a:Int))=true:=(by simp;omega);cases hl:lt d[j+1]! d[j]! with
   |true=>
    have s:iB C q a0 (a:Int) (((j+1:Nat):Int),d.toList)=some (.inl ((j:Int),(swp d (j+1) j).toList)):=(by simp only[iB,c1,aj,i1,fQ hj,ah,e,i2,fQ hj2,hC,hq,hl,GZ,Ko hj2,Kq]);rw[dx s,abf hC hq a0 a j (swp d (j+1) j) n (by rw[size_swp];exact h0) (by rw[size_swp];exact hs) (by rw[size_swp];exact hj2) (by omega)];simp[insInner,c,hl]
   |false=>
    refine(bJ (o:=d.toList) ?_).trans ?_
    ·simp only[iB,c1,aj,i1,fQ hj,ah,e,i2,fQ hj2,hC,hq,hl,ak]
    ·simp[insInner,hl]
  ·have c1:decide (((j+1:Nat):Int)>(a:Int))=false:=(by simp;omega);refine(bJ (o:=d.toList) ?_).trans ?_
   ·simp only[iB,c1,ak,ah]
   ·simp[insInner,c]
theorem ajh(hC:∀x y,C x y=some (f x y))(hq:∀x y,q (f x y)=lt x y)(a0:List α)(a b:Nat){n:Nat}:∀(m i:Nat)(d:Array α)(k:Nat),b -i<=m->a0.length=d.size->d.size<4611686018427387904->b<=d.size->d.size<n->m<k->
 iter (jq C q n a0 (a:Int) (b:Int)) k ((i:Int),d.toList)=some (insOuter lt a b i d).toList:=by
 intro m
 induction m with
 |zero=>
  intro i d k hm h0 hs hb hn hk;obtain⟨k,rfl⟩:∃m,k=m+1:=⟨k -1,by omega⟩;have c:¬i<b:=by omega
  have c1:decide ((i:Int)<(b:Int))=false:=by simp;omega
  rw[insOuter,aO c];exact bJ (by simp only[jq,c1,ak])
 |succ m ih=>
  intro i d k hm h0 hs hb hn hk;obtain⟨k,rfl⟩:∃m,k=m+1:=⟨k -1,by omega⟩;by_cases c:i<b
  ·have c1:decide ((i:Int)<(b:Int))=true:=(by simpa using c);have s:jq C q n a0 (a:Int) (b:Int) ((i:Int),d.toList)=some (.inl (((i+1:Nat):Int),(insInner lt a i d).toList)):=by
    simp only[jq,c1,aj,abf hC hq a0 a i d n h0 hs (by omega) (by omega),ah];rw[aR (by omega)]
   rw[dx s,ih (i+1) _ k (by omega) (by rw[rF];exact h0) (by rw[rF];exact hs) (by rw[rF];exact hb) (by rw[rF];exact hn) (by omega)]
   conv=>rhs;rw[insOuter,aP c]
  ·have c1:decide ((i:Int)<(b:Int))=false:=(by simp;omega);rw[insOuter,aO c];exact bJ (by simp only[jq,c1,ak])
theorem Pg(hC:∀x y,C x y=some (f x y))(hq:∀x y,q (f x y)=lt x y){d:Array α}{a b n:Nat}(hs:d.size<4611686018427387904)(hb:b<=d.size)(ha:a<=b)(hn:d.size<n):
 nJ C q n d.toList (a:Int) (b:Int)=some (insertionSort lt d a b).toList:=by
 unfold nJ insertionSort;rw[aR (by omega),ajh hC hq d.toList a b b (a+1) d n (by omega) (by simp) hs hb hn (by omega)];rfl
theorem size_siftDown(hi first:Nat):∀(m an:Nat)(d:Array α),hi -an<=m->(siftDown lt hi first an d).size=d.size:=by
 intro m
 induction m with
 |zero=>
  intro an d hm;rw[siftDown,dif_pos (by omega)]
 |succ m ih=>
  intro an d hm;rw[siftDown];split
  ·rfl
  ·split
   ·split
    ·rfl
    ·split
     ·rw[ih _ _ (by omega),size_swp]
     ·rfl
   ·split
    ·rfl
    ·rw[ih _ _ (by omega),size_swp]
theorem agN(hC:∀x y,C x y=some (f x y))(hq:∀x y,q (f x y)=lt x y)(a0:List α)(hi first:Nat):∀(m an:Nat)(d:Array α)(k:Nat),hi -an<=m->a0.length=d.size->d.size<1152921504606846976->first+hi<=d.size->an<=d.size->m<k->
 ∃r:List α⊕List α,iter (fP C q a0 (hi:Int) (first:Int)) k ((an:Int),d.toList)=some r/\(r= .inl (siftDown lt hi first an d).toList\/r= .inr (siftDown lt hi first an d).toList):=by
 intro m
 induction m with
 |zero=>
  intro an d k hm h0 hs hb hr hk;obtain⟨k,rfl⟩:∃m,k=m+1:=⟨k -1,by omega⟩;have e1:i64.wrap (2*(an:Int))=((2*an:Nat):Int):=by rw[bU (by omega) (by omega)];omega
  have e2:i64.wrap (((2*an:Nat):Int)+1)=((2*an+1:Nat):Int):=aR (by omega);have c:decide (((2*an+1:Nat):Int)>=(hi:Int))=true:=by simp;omega
  refine⟨.inl d.toList,bJ ?_,.inl ?_⟩
  ·simp only[fP,e1,e2,c,aj]
  ·rw[siftDown,dif_pos (by omega)]
 |succ m ih=>
  intro an d k hm h0 hs hb hr hk;obtain⟨k,rfl⟩:∃m,k=m+1:=⟨k -1,by omega⟩;have e1:i64.wrap (2*(an:Int))=((2*an:Nat):Int):=by rw[bU (by omega) (by omega)];omega
  have e2:i64.wrap (((2*an:Nat):Int)+1)=((2*an+1:Nat):Int):=aR (by omega);by_cases hc:2*an+1>=hi
  ·have c:decide (((2*an+1:Nat):Int)>=(hi:Int))=true:=(by simp;omega);refine⟨.inl d.toList,bJ ?_,.inl ?_⟩
   ·simp only[fP,e1,e2,c,aj]
   ·rw[siftDown,dif_pos hc]
  ·have c:decide (((2*an+1:Nat):Int)>=(hi:Int))=false:=(by simp;omega);have e3:i64.wrap (((2*an+1:Nat):Int)+1)=((2*an+2:Nat):Int):=aR (by omega);have e4:i64.wrap ((first:Int)+((2*an+1:Nat):Int))=((first+(2*an+1):Nat):Int):=Pf (by omega);have e5:i64.wrap (((first+(2*an+1):Nat):Int)+1)=((first+(2*an+1)+1:Nat):Int):=aR (by omega);have e6:i64.wrap ((first:Int)+((2*an+2:Nat):Int))=((first+(2*an+2):Nat):Int):=Pf (by omega);have e7:i64.wrap ((first:Int)+(an:Int))=((first+an:Nat):Int):=Pf (by omega);have hr0:first+an<d.size:=by omega
   have hr1:first+(2*an+1)<d.size:=by omega
   have i0:b9 ((first+an:Nat):Int) a0.length=true:=kX (by omega);have i1:b9 ((first+(2*an+1):Nat):Int) a0.length=true:=kX (by omega);by_cases h2:2*an+2<hi
   ·have hr2:first+(2*an+2)<d.size:=by omega
    have hr3:first+(2*an+1)+1<d.size:=by omega
    have i2:b9 ((first+(2*an+2):Nat):Int) a0.length=true:=kX (by omega);have i3:b9 ((first+(2*an+1)+1:Nat):Int) a0.length=true:=kX (by omega);have c2:decide (((2*an+2:Nat):Int)<(hi:Int))=true:=(by simp;omega);have h2':decide (2*an+1+1<hi)=true:=(by simpa using h2);cases hl:lt d[first+(2*an+1)]! d[first+(2*an+1)+1]! with
    |true=>
     cases hl2:lt d[first+an]! d[first+(2*an+2)]! with
     |false=>
      refine⟨.inr d.toList,bJ ?_,.inr ?_⟩
      ·simp only[fP,e1,e2,c,ak,e3,c2,aj,e4,i1,fQ hr1,ah,e5,i3,fQ hr3,hC,hq,hl,e6,i2,e7,i0,fQ hr0,fQ hr2,hl2,Bool.not_false,Option.map_some]
      ·rw[siftDown,dif_neg hc,aP (by rw[h2',hl];rfl),aP (by rw[hl2];rfl)]
     |true=>
      have s:fP C q a0 (hi:Int) (first:Int) ((an:Int),d.toList)=some (.inl (((2*an+2:Nat):Int),(swp d (first+an) (first+(2*an+2))).toList)):=(by simp only[fP,e1,e2,c,ak,e3,c2,aj,e4,i1,fQ hr1,ah,e5,i3,fQ hr3,hC,hq,hl,e6,i2,e7,i0,fQ hr0,fQ hr2,hl2,Bool.not_true,GZ,Ko hr2,Kq]);obtain⟨r,g1,g2⟩:=ih (2*an+2) (swp d (first+an) (first+(2*an+2))) k (by omega) (by rw[size_swp];exact h0) (by rw[size_swp];exact hs) (by rw[size_swp];exact hb) (by rw[size_swp];omega) (by omega);refine⟨r,by rw[dx s];exact g1,?_⟩;rw[siftDown,dif_neg hc,aP (by rw[h2',hl];rfl),aO (by rw[hl2];simp),dif_pos h2];exact g2
    |false=>
     cases hl2:lt d[first+an]! d[first+(2*an+1)]! with
     |false=>
      refine⟨.inr d.toList,bJ ?_,.inr ?_⟩
      ·simp only[fP,e1,e2,c,ak,e3,c2,aj,e4,i1,fQ hr1,ah,e5,i3,fQ hr3,hC,hq,hl,e7,i0,fQ hr0,hl2,Bool.not_false,Option.map_some]
      ·rw[siftDown,dif_neg hc,aO (by rw[hl];simp),aP (by rw[hl2];rfl)]
     |true=>
      have s:fP C q a0 (hi:Int) (first:Int) ((an:Int),d.toList)=some (.inl (((2*an+1:Nat):Int),(swp d (first+an) (first+(2*an+1))).toList)):=(by simp only[fP,e1,e2,c,ak,e3,c2,aj,e4,i1,fQ hr1,ah,e5,i3,fQ hr3,hC,hq,hl,e7,i0,fQ hr0,hl2,Bool.not_true,GZ,Ko hr1,Kq]);obtain⟨r,g1,g2⟩:=ih (2*an+1) (swp d (first+an) (first+(2*an+1))) k (by omega) (by rw[size_swp];exact h0) (by rw[size_swp];exact hs) (by rw[size_swp];exact hb) (by rw[size_swp];omega) (by omega);refine⟨r,by rw[dx s];exact g1,?_⟩;rw[siftDown,dif_neg hc,aO (by rw[hl];simp),aO (by rw[hl2];simp)];exact g2
   ·have c2:decide (((2*an+2:Nat):Int)<(hi:Int))=false:=(by simp;omega);have h2':decide (2*an+1+1<hi)=false:=(by simp;omega);cases hl2:lt d[first+an]! d[first+(2*an+1)]! with
    |false=>
     refine⟨.inr d.toList,bJ ?_,.inr ?_⟩
     ·simp only[fP,e1,e2,c,ak,e3,c2,aj,e4,i1,fQ hr1,ah,hC,hq,e7,i0,fQ hr0,hl2,Bool.not_false,Option.map_some]
     ·rw[siftDown,dif_neg hc,aO (by rw[h2'];simp),aP (by rw[hl2];rfl)]
    |true=>
     have s:fP C q a0 (hi:Int) (first:Int) ((an:Int),d.toList)=some (.inl (((2*an+1:Nat):Int),(swp d (first+an) (first+(2*an+1))).toList)):=(by simp only[fP,e1,e2,c,ak,e3,c2,aj,e4,i1,fQ hr1,ah,hC,hq,e7,i0,fQ hr0,hl2,Bool.not_true,GZ,Ko hr1,Kq]);obtain⟨r,g1,g2⟩:=ih (2*an+1) (swp d (first+an) (first+(2*an+1))) k (by omega) (by rw[size_swp];exact h0) (by rw[size_swp];exact hs) (by rw[size_swp];exact hb) (by rw[size_swp];omega) (by omega);refine⟨r,by rw[dx s];exact g1,?_⟩;rw[siftDown,dif_neg hc,aO (by rw[h2'];simp),aO (by rw[hl2];simp)];exact g2
theorem Ph(hC:∀x y,C x y=some (f x y))(hq:∀x y,q (f x y)=lt x y){d:Array α}{hi first an n:Nat}(hs:d.size<1152921504606846976)(hb:first+hi<=d.size)(hr:an<=d.size)(hn:d.size<n):
 tN C q n d.toList (an:Int) (hi:Int) (first:Int)=some (siftDown lt hi first an d).toList:=by
 obtain⟨r,h1,h2⟩:=agN hC hq d.toList hi first hi an d n (by omega) (by simp) hs hb hr (by omega)
 unfold tN;rw[h1];rcases h2 with h2 |h2<;>rw[h2]<;>rfl
theorem Kt(hi first:Nat):∀(k:Nat)(d:Array α),(heapBuild lt hi first k d).size=d.size
 | 0,d=>rfl
 |k+1,d=>by rw[heapBuild,Kt hi first k,size_siftDown hi first hi k d (by omega)]
theorem agO(hC:∀x y,C x y=some (f x y))(hq:∀x y,q (f x y)=lt x y)(a0:List α)(a b:Nat){n:Nat}(hab:a<=b):∀(i:Nat)(d:Array α)(k:Nat),a0.length=d.size->d.size<1152921504606846976->b<=d.size->i<=d.size->d.size<n->i<k->
 iter (uD C q n a0 (a:Int) (b:Int)) k ((i:Int) -1,d.toList)=some (heapBuild lt (b -a) a i d).toList:=by
 intro i
 induction i with
 |zero=>
  intro d k h0 hs hb hi hn hk;obtain⟨k,rfl⟩:∃m,k=m+1:=⟨k -1,by omega⟩;exact bJ (by simp[uD,heapBuild])
 |succ i ih=>
  intro d k h0 hs hb hi hn hk;obtain⟨k,rfl⟩:∃m,k=m+1:=⟨k -1,by omega⟩;have e:(((i+1:Nat):Int) -1)=(i:Int):=by omega
  have c:decide ((i:Int)>=0)=true:=by simp
  have z:=size_siftDown (lt:=lt) (b -a) a (b -a) i d (by omega);have s:uD C q n a0 (a:Int) (b:Int) ((i:Int),d.toList)=some (.inl ((i:Int) -1,(siftDown lt (b -a) a i d).toList)):=by
   simp only[uD,c,aj];rw[XQ (by simpa using h0),Kr hab (by omega),Ph hC hq hs (by omega) (by omega) hn];simp only[aj,ah];rw[bU (by omega) (by omega)]
  rw[e,dx s,ih _ k (by rw[z];exact h0) (by rw[z];exact hs) (by rw[z];exact hb) (by rw[z];omega) (by rw[z];exact hn) (by omega)];rfl
theorem agP(hC:∀x y,C x y=some (f x y))(hq:∀x y,q (f x y)=lt x y)(a0:List α)(a:Nat){n:Nat}:∀(i:Nat)(d:Array α)(k:Nat),a0.length=d.size->d.size<1152921504606846976->a+i<=d.size->d.size<n->i<k->
 iter (uE C q n a0 (a:Int)) k ((i:Int) -1,d.toList)=some (heapPop lt a i d).toList:=by
 intro i
 induction i with
 |zero=>
  intro d k h0 hs hb hn hk;obtain⟨k,rfl⟩:∃m,k=m+1:=⟨k -1,by omega⟩;exact bJ (by simp[uE,heapPop])
 |succ i ih=>
  intro d k h0 hs hb hn hk;obtain⟨k,rfl⟩:∃m,k=m+1:=⟨k -1,by omega⟩;have e:(((i+1:Nat):Int) -1)=(i:Int):=by omega
  have c:decide ((i:Int)>=0)=true:=by simp
  have hai:a+i<d.size:=by omega
  have ha:a<d.size:=by omega
  have i1:b9 ((a+i:Nat):Int) a0.length=true:=kX (by omega);have i2:b9 (a:Int) a0.length=true:=kX (by omega);have e1:i64.wrap ((a:Int)+(i:Int))=((a+i:Nat):Int):=Pf (by omega);have z:=size_siftDown (lt:=lt) i a i 0 (swp d a (a+i)) (by omega);have q1:tN C q n (swp d a (a+i)).toList 0 (i:Int) (a:Int)=some (siftDown lt i a 0 (swp d a (a+i))).toList:=Ph (an:=0) hC hq (by rw[size_swp];exact hs) (by rw[size_swp];omega) (by omega) (by rw[size_swp];exact hn);have s:uE C q n a0 (a:Int) ((i:Int),d.toList)=some (.inl ((i:Int) -1,(siftDown lt i a 0 (swp d a (a+i))).toList)):=by
   simp only[uE,c,aj,e1,i1,fQ hai,ah,i2,fQ ha,GZ,Ko hai,Kq];rw[XQ (by rw[h0,Array.length_toList,size_swp]),q1];simp only[aj,ah];rw[bU (by omega) (by omega)]
  rw[size_swp]at z;rw[e,dx s,ih _ k (by rw[z];exact h0) (by rw[z];exact hs) (by rw[z];omega) (by rw[z];exact hn) (by omega)];rfl
theorem acC(hC:∀x y,C x y=some (f x y))(hq:∀x y,q (f x y)=lt x y){d:Array α}{a b n:Nat}(hs:d.size<1152921504606846976)(hb:b<=d.size)(hab:a<b)(hn:d.size<n):
 Ae C q n d.toList (a:Int) (b:Int)=some (heapSort lt d a b).toList:=by
 unfold Ae heapSort;have e1:i64.wrap ((b:Int) -(a:Int))=((b -a:Nat):Int):=Kr (by omega) (by omega);have e2:i64.wrap (((b -a:Nat):Int) -1)=((b -a -1:Nat):Int):=w1 (by omega) (by omega);have e3:i64.wrap (Int.tdiv ((b -a -1:Nat):Int) 2)=(((b -a -1)/2+1:Nat):Int) -1:=by rw[show Int.tdiv ((b -a -1:Nat):Int) 2=(((b -a -1)/2:Nat):Int)by rw[Int.tdiv_eq_ediv_of_nonneg (by omega)];omega,pQ (by omega)];omega
 have c:(2 !=0)=true:=rfl;have z:=Kt (lt:=lt) (b -a) a ((b -a -1)/2+1) d;rw[e1,e2,e3,agO hC hq d.toList a b (by omega) _ d n (by simp) hs hb (by omega) hn (by omega)];simp only[ah];rw[show ((b -a -1:Nat):Int)=((b -a:Nat):Int) -1 by omega,agP hC hq d.toList a (b -a) _ n (by rw[z];simp) (by rw[z];exact hs) (by rw[z];omega) (by rw[z];exact hn) (by omega)];rfl
theorem aji(a0:List α):∀(m i j:Nat)(d:Array α)(k:Nat),j -i<=m->a0.length=d.size->d.size<1152921504606846976->j<d.size->m<k->
 iter (kg a0) k ((i:Int),(j:Int),d.toList)=some (reverseLoop i j d).toList:=by
 intro m
 induction m with
 |zero=>
  intro i j d k hm h0 hs hj hk;obtain⟨k,rfl⟩:∃m,k=m+1:=⟨k -1,by omega⟩;have c:decide ((i:Int)<(j:Int))=false:=by simp;omega
  rw[reverseLoop,aO (by omega)];exact bJ (by simp only[kg,c,ak])
 |succ m ih=>
  intro i j d k hm h0 hs hj hk;obtain⟨k,rfl⟩:∃m,k=m+1:=⟨k -1,by omega⟩;by_cases hij:i<j
  ·have c:decide ((i:Int)<(j:Int))=true:=(by simpa using hij);have hi:i<d.size:=(by omega);have i1:b9 (i:Int) a0.length=true:=kX (by omega);have i2:b9 (j:Int) a0.length=true:=kX (by omega);have s:kg a0 ((i:Int),(j:Int),d.toList)=some (.inl (((i+1:Nat):Int),((j -1:Nat):Int),(swp d i j).toList)):=by
    simp only[kg,c,aj,i2,fQ hj,ah,i1,fQ hi,GZ,Ko hj,Kq];rw[aR (by omega),w1 (by omega) (by omega)]
   rw[dx s,ih _ _ _ k (by omega) (by rw[size_swp];exact h0) (by rw[size_swp];exact hs) (by rw[size_swp];omega) (by omega)]
   conv=>rhs;rw[reverseLoop,aP hij]
  ·have c:decide ((i:Int)<(j:Int))=false:=(by simp;omega);rw[reverseLoop,aO hij];exact bJ (by simp only[kg,c,ak])
theorem RB{d:Array α}{a b n:Nat}(hs:d.size<1152921504606846976)(hb:b<=d.size)(hab:a<b)(hn:d.size<n):
 mO n d.toList (a:Int) (b:Int)=some (reverseRange d a b).toList:=by
 unfold mO reverseRange;rw[w1 (by omega) (by omega),aji d.toList b a (b -1) d n (by omega) (by simp) hs (by omega) (by omega)];rfl
end
theorem oN{x:Nat}(h:x<18446744073709551616):IntKind.u64.wrap (x:Int)=(x:Int):=by
 simp only[IntKind.wrap,IntKind.bits,IntKind.signed,Bool.false_and,Bool.false_eq_true,if_false];omega
theorem XR{x y:Nat}(hx:x<18446744073709551616)(hy:y<18446744073709551616):bits .xor .u64 (x:Int) (y:Int)=((x ^^^ y:Nat):Int):=by
 have h:x ^^^ y<2 ^ 64:=Nat.xor_lt_two_pow (by omega) (by omega);show IntKind.u64.wrap (((BitVec.ofInt 64 (x:Int) ^^^ BitVec.ofInt 64 (y:Int)).toNat:Nat):Int)=_;rw[BitVec.toNat_xor,BitVec.toNat_ofInt,BitVec.toNat_ofInt];have e1:((x:Int)%(2 ^ 64:Nat)).toNat=x:=by omega
 have e2:((y:Int)%(2 ^ 64:Nat)).toNat=y:=by omega
 rw[e1,e2,oN (by omega)]
theorem akT{x y:Nat}(hx:x<18446744073709551616)(hy:y<18446744073709551616):bits .and .u64 (x:Int) (y:Int)=((x &&& y:Nat):Int):=by
 have h:x &&& y<=x:=Nat.and_le_left;show IntKind.u64.wrap (((BitVec.ofInt 64 (x:Int) &&& BitVec.ofInt 64 (y:Int)).toNat:Nat):Int)=_;rw[BitVec.toNat_and,BitVec.toNat_ofInt,BitVec.toNat_ofInt];have e1:((x:Int)%(2 ^ 64:Nat)).toNat=x:=by omega
 have e2:((y:Int)%(2 ^ 64:Nat)).toNat=y:=by omega
 rw[e1,e2,oN (by omega)]
section
variable {α R:Type} [Inhabited α]
variable {C:α->α->Option R} {q:R->Bool} {f:α->α->R} {lt:α->α->Bool}
theorem Nz(hC:∀x y,C x y=some (f x y))(hq:∀x y,q (f x y)=lt x y){d:Array α}{a b s:Nat}(ha:a<d.size)(hb:b<d.size)(hs:s<1099511627776):
 CK C q d.toList (a:Int) (b:Int) (s:Int)=some (((order2 lt d a b s).1:Int),((order2 lt d a b s).2.1:Int),((order2 lt d a b s).2.2:Int)):=by
 unfold CK order2;simp only[ana hb,ana ha,ah,hC,hq];cases lt d[b]! d[a]! with
 |true=>simp only[aj,if_true];rw[aR (by omega)]
 |false=>simp
theorem NA(hC:∀x y,C x y=some (f x y))(hq:∀x y,q (f x y)=lt x y){d:Array α}{a b c s:Nat}(ha:a<d.size)(hb:b<d.size)(hc:c<d.size)(hs:s<1099511627770):
 zq C q d.toList (a:Int) (b:Int) (c:Int) (s:Int)=some (((median lt d a b c s).1:Int),((median lt d a b c s).2:Int)):=by
 unfold zq median;have m1:=order2_mem lt d a b s;have c1:=order2_count (lt:=lt) d a b s;rw[Nz hC hq ha hb (by omega),ah];have r1:(order2 lt d a b s).1<d.size:=by omega
 have r2:(order2 lt d a b s).2.1<d.size:=by omega
 have m2:=order2_mem lt d (order2 lt d a b s).2.1 c (order2 lt d a b s).2.2;have c2:=order2_count (lt:=lt) d (order2 lt d a b s).2.1 c (order2 lt d a b s).2.2;simp only[Nz hC hq r2 hc (show (order2 lt d a b s).2.2<1099511627776 by omega),ah];have r3:(order2 lt d (order2 lt d a b s).2.1 c (order2 lt d a b s).2.2).1<d.size:=by omega
 simp only[Nz hC hq r1 r3 (show (order2 lt d (order2 lt d a b s).2.1 c (order2 lt d a b s).2.2).2.2<1099511627776 by omega),ah]
theorem sO(hC:∀x y,C x y=some (f x y))(hq:∀x y,q (f x y)=lt x y){d:Array α}{a s:Nat}(ha:0<a)(hb:a+1<d.size)(hs:s<1099511627770)(hsz:d.size<1152921504606846976):
 eT C q d.toList (a:Int) (s:Int)=some (((medianAdjacent lt d a s).1:Int),((medianAdjacent lt d a s).2:Int)):=by
 unfold eT medianAdjacent;rw[w1 ha (by omega),aR (by omega),NA hC hq (by omega) (by omega) hb hs];rfl
def TY:Hint->Int
 | .unknown=>0
 | .increasing=>1
 | .decreasing=>2
theorem Pj(a b:Nat):Int.tdiv (a:Int) (b:Int)=((a/b:Nat):Int):=by rw[Int.tdiv_eq_ediv_of_nonneg (by omega)];rfl
theorem akU(hC:∀x y,C x y=some (f x y))(hq:∀x y,q (f x y)=lt x y){d:Array α}{i j k:Nat}(hi:0<i)(hi2:i+1<d.size)(hj:0<j)(hj2:j+1<d.size)(hk:0<k)(hk2:k+1<d.size)(hsz:d.size<1152921504606846976):
 ((eT C q d.toList (i:Int) 0).bind λr1=>(eT C q d.toList (j:Int) r1.2).bind λr2=>(eT C q d.toList (k:Int) r2.2).bind λr3=>some (r1.1,r2.1,r3.1,r3.2))=
  some (((medianAdjacent lt d i 0).1:Int),((medianAdjacent lt d j (medianAdjacent lt d i 0).2).1:Int),((medianAdjacent lt d k (medianAdjacent lt d j (medianAdjacent lt d i 0).2).2).1:Int),((medianAdjacent lt d k (medianAdjacent lt d j (medianAdjacent lt d i 0).2).2).2:Int))/\
 zq C q d.toList ((medianAdjacent lt d i 0).1:Int) ((medianAdjacent lt d j (medianAdjacent lt d i 0).2).1:Int) ((medianAdjacent lt d k (medianAdjacent lt d j (medianAdjacent lt d i 0).2).2).1:Int) ((medianAdjacent lt d k (medianAdjacent lt d j (medianAdjacent lt d i 0).2).2).2:Int)=
  some (((median lt d (medianAdjacent lt d i 0).1 (medianAdjacent lt d j (medianAdjacent lt d i 0).2).1 (medianAdjacent lt d k (medianAdjacent lt d j (medianAdjacent lt d i 0).2).2).1 (medianAdjacent lt d k (medianAdjacent lt d j (medianAdjacent lt d i 0).2).2).2).1:Int),((median lt d (medianAdjacent lt d i 0).1 (medianAdjacent lt d j (medianAdjacent lt d i 0).2).1 (medianAdjacent lt d k (medianAdjacent lt d j (medianAdjacent lt d i 0).2).2).1 (medianAdjacent lt d k (medianAdjacent lt d j (medianAdjacent lt d i 0).2).2).2).2:Int)):=by
 have n1:=medianAdjacent_mem lt d i 0;have k1:=medianAdjacent_count (lt:=lt) d i 0;have g1:eT C q d.toList (i:Int) 0=_:=sO (s:=0) hC hq hi hi2 (by omega) hsz;generalize medianAdjacent lt d i 0=M1 at*;have n2:=medianAdjacent_mem lt d j M1.2;have k2:=medianAdjacent_count (lt:=lt) d j M1.2;have g2:=sO (d:=d) (s:=M1.2) hC hq hj hj2 (by omega) hsz;generalize medianAdjacent lt d j M1.2=M2 at*;have n3:=medianAdjacent_mem lt d k M2.2;have k3:=medianAdjacent_count (lt:=lt) d k M2.2;have g3:=sO (d:=d) (s:=M2.2) hC hq hk hk2 (by omega) hsz;generalize medianAdjacent lt d k M2.2=M3 at*;refine⟨?_,NA hC hq (by omega) (by omega) (by omega) (by omega)⟩;simp only[g1,ah,g2,g3]
theorem Uu(hC:∀x y,C x y=some (f x y))(hq:∀x y,q (f x y)=lt x y){d:Array α}{a b:Nat}(hab:a<b)(hb:b<=d.size)(hsz:d.size<1152921504606846976):
 qg C q d.toList (a:Int) (b:Int)=some (((choosePivot lt d a b).1:Int),TY (choosePivot lt d a b).2):=by
 have e1:i64.wrap ((b:Int) -(a:Int))=((b -a:Nat):Int):=Kr (by omega) (by omega);have e2:i64.wrap (Int.tdiv ((b -a:Nat):Int) 4)=(((b -a)/4:Nat):Int):=by rw[show (4:Int)=((4:Nat):Int)from rfl,Pj,pQ (by omega)]
 have p1:i64.wrap ((((b -a)/4:Nat):Int)*1)=(((b -a)/4*1:Nat):Int):=by rw[bU (by omega) (by omega)];omega
 have p2:i64.wrap ((((b -a)/4:Nat):Int)*2)=(((b -a)/4*2:Nat):Int):=by rw[bU (by omega) (by omega)];omega
 have p3:i64.wrap ((((b -a)/4:Nat):Int)*3)=(((b -a)/4*3:Nat):Int):=by rw[bU (by omega) (by omega)];omega
 have q1:i64.wrap ((a:Int)+(((b -a)/4*1:Nat):Int))=((a+(b -a)/4*1:Nat):Int):=Pf (by omega);have q2:i64.wrap ((a:Int)+(((b -a)/4*2:Nat):Int))=((a+(b -a)/4*2:Nat):Int):=Pf (by omega);have q3:i64.wrap ((a:Int)+(((b -a)/4*3:Nat):Int))=((a+(b -a)/4*3:Nat):Int):=Pf (by omega);have four:(4 !=0)=true:=rfl;have fin:∀(x:Nat)(s:Nat),((bif ((s:Int)==(0:Int))then some ((x:Int),(1:Int))else(bif ((s:Int)==(12:Int))then some ((x:Int),(2:Int))else some ((x:Int),(0:Int)))):Option (Int×Int))=some ((x:Int),TY (if s=0 then .increasing else if s=12 then .decreasing else .unknown)):=by
  intro x s;by_cases h0:s=0
  ·subst h0;rfl
  ·have z0:((s:Int)==0)=false:=(by rw[beq_eq_false_iff_ne];omega);by_cases h12:s=12
   ·subst h12;rfl
   ·have z12:((s:Int)==12)=false:=(by rw[beq_eq_false_iff_ne];omega);simp only[z0,z12,ak,h0,h12,if_false,TY]
 unfold qg choosePivot;simp only[four,aj,e1,e2,p1,p2,p3,q1,q2,q3];by_cases h8:b -a>=8
 ·have c8:decide (((b -a:Nat):Int)>=8)=true:=by simp;omega
  by_cases h50:b -a>=50
  ·have By:decide (((b -a:Nat):Int)>=50)=true:=(by simp;omega);have hi:0<a+(b -a)/4*1:=(by omega);have hj:0<a+(b -a)/4*2:=(by omega);have hk:0<a+(b -a)/4*3:=(by omega);have hi2:a+(b -a)/4*1+1<d.size:=(by omega);have hj2:a+(b -a)/4*2+1<d.size:=(by omega);have hk2:a+(b -a)/4*3+1<d.size:=(by omega);have⟨g1,g2⟩:=akU hC hq hi hi2 hj hj2 hk hk2 hsz;simp only[c8,aj,By,g1,ah,g2,fin,aP h8,aP h50]
  ·have By:decide (((b -a:Nat):Int)>=50)=false:=(by simp;omega);have g:zq C q d.toList ((a+(b -a)/4*1:Nat):Int) ((a+(b -a)/4*2:Nat):Int) ((a+(b -a)/4*3:Nat):Int) 0=_:=NA (s:=0) hC hq (by omega) (by omega) (by omega) (by omega);simp only[c8,aj,By,ak,ah,g,fin,aP h8,aO h50]
 ·have c8:decide (((b -a:Nat):Int)>=8)=false:=by simp;omega
  simp only[c8,ak,ah,aO h8];rfl
def D3(ju:Int->Option Int):Prop:=∀L:Nat,8<=L->L<1152921504606846976->ju (L:Int)=some ((2 ^ bitsLen L:Nat):Int)
def XT(lv:Int->Option (Int×Int)):Prop:=∀r:Nat,r<18446744073709551616->lv (r:Int)=some ((xorNextN r:Int),(xorNextN r:Int))
theorem ajj(r:UInt64):(xorNext r).toNat=xorNextN r.toNat:=xorNext_toNat r
theorem Ku(a len m:Nat)(st:UInt64×Array α)(aE:Nat):(breakStep a len m st aE).2.size=st.2.size:=by simp[breakStep,size_swp]
theorem Kv{ju:Int->Option Int}{lv:Int->Option (Int×Int)}(hx:XT lv)(a0:List α){a b:Nat}{d:Array α}{r:UInt64}{aE:Nat}(h0:a0.length=d.size)(hb:b<=d.size)(h8:8<=b -a)(hsz:d.size<1152921504606846976)
 (hi:a<=aE) (hi2:aE<b) (hle:aE<=a+(b -a)/4*2+1):
 lY ju lv a0 (a:Int) (b:Int) ((2 ^ bitsLen (b -a):Nat):Int) ((aE:Int),d.toList,(r.toNat:Int))=some (.inl (((aE+1:Nat):Int),(breakStep a (b -a) (1 <<< bitsLen (b -a)) (r,d) aE).2.toList,((breakStep a (b -a) (1 <<< bitsLen (b -a)) (r,d) aE).1.toNat:Int))):=by
 have e1:i64.wrap ((b:Int) -(a:Int))=((b -a:Nat):Int):=Kr (by omega) (by omega);have e2:i64.wrap (Int.tdiv ((b -a:Nat):Int) 4)=(((b -a)/4:Nat):Int):=by rw[show (4:Int)=((4:Nat):Int)from rfl,Pj,pQ (by omega)]
 have p2:i64.wrap ((((b -a)/4:Nat):Int)*2)=(((b -a)/4*2:Nat):Int):=by rw[bU (by omega) (by omega)];omega
 have q2:i64.wrap ((a:Int)+(((b -a)/4*2:Nat):Int))=((a+(b -a)/4*2:Nat):Int):=Pf (by omega);have q3:i64.wrap (((a+(b -a)/4*2:Nat):Int)+1)=((a+(b -a)/4*2+1:Nat):Int):=aR (by omega);have c:decide ((aE:Int)<=((a+(b -a)/4*2+1:Nat):Int))=true:=by simp;omega
 have four:(4 !=0)=true:=rfl;have hp:=two_pow_bitsLen_le (n:=b -a) (by omega);have hp1:=lt_two_pow_bitsLen (b -a);have sh:1 <<< bitsLen (b -a)=2 ^ bitsLen (b -a):=by rw[Nat.shiftLeft_eq,Nat.one_mul]
 have hr:=r.toNat_lt;have hr2:xorNextN r.toNat<18446744073709551616:=xorNextN_lt _ (by omega);have m1:IntKind.u64.wrap (((2 ^ bitsLen (b -a):Nat):Int) -1)=((2 ^ bitsLen (b -a) -1:Nat):Int):=by rw[show ((2 ^ bitsLen (b -a):Nat):Int) -1=((2 ^ bitsLen (b -a) -1:Nat):Int)by omega,oN (by omega)]
 have al:xorNextN r.toNat &&& (2 ^ bitsLen (b -a) -1)<=2 ^ bitsLen (b -a) -1:=Nat.and_le_right;have m2:i64.wrap (bits .and .u64 ((xorNextN r.toNat:Nat):Int) ((2 ^ bitsLen (b -a) -1:Nat):Int))=((xorNextN r.toNat &&& (2 ^ bitsLen (b -a) -1):Nat):Int):=by rw[akT hr2 (by omega),pQ (by omega)]
 generalize hO:xorNextN r.toNat &&& (2 ^ bitsLen (b -a) -1)=O at*;have pick:((bif (decide ((O:Int)>=((b -a:Nat):Int)))then some (i64.wrap ((O:Int) -((b -a:Nat):Int)))else some (O:Int)):Option Int)=some (((if O>=b -a then O -(b -a)else O:Nat)):Int):=by
  by_cases h:O>=b -a
  ·have c:decide ((O:Int)>=((b -a:Nat):Int))=true:=(by simp;omega);rw[c,aj,Kr (by omega) (by omega),aP h]
  ·have c:decide ((O:Int)>=((b -a:Nat):Int))=false:=(by simp;omega);rw[c,ak,aO h]
 have hpk:(if O>=b -a then O -(b -a)else O)<b -a:=by split<;>omega
 unfold breakStep;simp only[ajj,sh,hO];generalize (if O>=b -a then O -(b -a)else O)=P at*;have hP:a+P<d.size:=by omega
 have hI:aE<d.size:=by omega
 have i1:b9 ((a+P:Nat):Int) a0.length=true:=kX (by omega);have i2:b9 (aE:Int) a0.length=true:=kX (by omega);simp only[lY,four,aj,e1,e2,p2,q2,q3,c,hx _ (show r.toNat<18446744073709551616 by omega),ah,m1,m2,pick,Pf (show a+P<=9223372036854775807 by omega),i1,i2,fQ hP,fQ hI,GZ,Ko hP,Kq];rw[aR (by omega)]
theorem Pk{ju:Int->Option Int}{lv:Int->Option (Int×Int)}(hn:D3 ju)(hx:XT lv){d:Array α}{a b n:Nat}(hab:a<=b)(hb:b<=d.size)(hsz:d.size<1152921504606846976)(hn4:4<n):
 kI ju lv n d.toList (a:Int) (b:Int)=some (breakPatterns d a b).toList:=by
 have e1:i64.wrap ((b:Int) -(a:Int))=((b -a:Nat):Int):=Kr (by omega) (by omega);unfold kI breakPatterns;rw[e1];by_cases h8:b -a>=8
 ·have c:decide (((b -a:Nat):Int)>=8)=true:=by simp;omega
  have e2:i64.wrap (Int.tdiv ((b -a:Nat):Int) 4)=(((b -a)/4:Nat):Int):=by rw[show (4:Int)=((4:Nat):Int)from rfl,Pj,pQ (by omega)]
  have p2:i64.wrap ((((b -a)/4:Nat):Int)*2)=(((b -a)/4*2:Nat):Int):=by rw[bU (by omega) (by omega)];omega
  have q2:i64.wrap ((a:Int)+(((b -a)/4*2:Nat):Int))=((a+(b -a)/4*2:Nat):Int):=Pf (by omega);have q3:i64.wrap (((a+(b -a)/4*2:Nat):Int)+1)=((a+(b -a)/4*2+1:Nat):Int):=aR (by omega);have q4:i64.wrap (((a+(b -a)/4*2:Nat):Int) -1)=((a+(b -a)/4*2 -1:Nat):Int):=w1 (by omega) (by omega);have four:(4 !=0)=true:=rfl;have u:IntKind.u64.wrap ((b -a:Nat):Int)=((UInt64.ofNat (b -a)).toNat:Int):=by
   rw[oN (by omega),UInt64.toNat_ofNat'];congr 1;omega
  have aoK:decide (((a+(b -a)/4*2+1+1:Nat):Int)<=((a+(b -a)/4*2+1:Nat):Int))=false:=by simp;omega
  simp only[c,aj,hn (b -a) h8 (by omega),ah,four,e2,p2,q2,q4,u,pQ (show b -a<=9223372036854775807 by omega)];rw[aP h8];generalize hI:a+(b -a)/4*2 -1=I at*;generalize hst:(UInt64.ofNat (b -a),d)=st at*;have s1:=Kv (a0:=d.toList) (ju:=ju) hx (a:=a) (b:=b) (d:=st.2) (r:=st.1) (aE:=I) (by rw[<- hst];simp) (by rw[<- hst];exact hb) h8 (by rw[<- hst];exact hsz) (by omega) (by omega) (by omega);have z1:=Ku a (b -a) (1 <<< bitsLen (b -a)) st I;have s2:=Kv (a0:=d.toList) (ju:=ju) hx (a:=a) (b:=b) (d:=(breakStep a (b -a) (1 <<< bitsLen (b -a)) st I).2) (r:=(breakStep a (b -a) (1 <<< bitsLen (b -a)) st I).1) (aE:=I+1) (by rw[z1,<- hst];simp) (by rw[z1,<- hst];exact hb) h8 (by rw[z1,<- hst];exact hsz) (by omega) (by omega) (by omega);have z2:=Ku a (b -a) (1 <<< bitsLen (b -a)) (breakStep a (b -a) (1 <<< bitsLen (b -a)) st I) (I+1);have s3:=Kv (a0:=d.toList) (ju:=ju) hx (a:=a) (b:=b) (d:=(breakStep a (b -a) (1 <<< bitsLen (b -a)) (breakStep a (b -a) (1 <<< bitsLen (b -a)) st I) (I+1)).2) (r:=(breakStep a (b -a) (1 <<< bitsLen (b -a)) (breakStep a (b -a) (1 <<< bitsLen (b -a)) st I) (I+1)).1) (aE:=I+2) (by rw[z2,z1,<- hst];simp) (by rw[z2,z1,<- hst];exact hb) h8 (by rw[z2,z1,<- hst];exact hsz) (by omega) (by omega) (by omega);obtain⟨n,rfl⟩:∃m,n=m+1+1+1+1:=⟨n -4,by omega⟩;have d1:d.toList=st.2.toList:=by rw[<- hst]
  have d2:(UInt64.ofNat (b -a)).toNat=st.1.toNat:=by rw[<- hst]
  have step1:iter (lY ju lv d.toList (a:Int) (b:Int) ((2 ^ bitsLen (b -a):Nat):Int)) (n+1+1+1+1) ((I:Int),st.2.toList,(st.1.toNat:Int))=some (breakStep a (b -a) (1 <<< bitsLen (b -a)) (breakStep a (b -a) (1 <<< bitsLen (b -a)) (breakStep a (b -a) (1 <<< bitsLen (b -a)) st I) (I+1)) (I+2)).2.toList:=by
   rw[dx s1,dx s2,dx s3];refine bJ ?_;have cs:decide (((I+2+1:Nat):Int)<=((a+(b -a)/4*2+1:Nat):Int))=false:=(by simp;omega);simp only[lY,four,aj,e1,e2,p2,q2,q3,cs,ak]
  rw[<- d1,<- d2]at step1;rw[step1];rfl
 ·have c:decide (((b -a:Nat):Int)>=8)=false:=by simp;omega
  rw[aO h8,c];rfl
end
section
variable {α R:Type} [Inhabited α]
theorem xI{step:Int->Option (Int⊕Int)}(p:α->Bool)(d:Array α)(j:Nat)(h:∀i:Nat,i<=j+2->step (i:Int)=some (bif decide (i<=j)&&p d[i]! then .inl ((i+1:Nat):Int)else .inr (i:Int))):
 ∀(m i n:Nat),j+1 -i<=m->i<=j+2->m<n->iter step n (i:Int)=some ((scanUp p d j i:Nat):Int):=by
 intro m
 induction m with
 |zero=>
  intro i n hm hi hn;obtain⟨n,rfl⟩:∃m,n=m+1:=⟨n -1,by omega⟩;have hi2:¬i<=j:=by omega
  rw[scanUp,aO (by simp[hi2])];exact bJ (by rw[h i hi];simp[hi2])
 |succ m ih=>
  intro i n hm hi hn;obtain⟨n,rfl⟩:∃m,n=m+1:=⟨n -1,by omega⟩;have hs:=h i hi;cases hc:decide (i<=j)&&p d[i]! with
  |true=>
   rw[hc,aj]at hs;have hij:i<=j:=by
    rw[aJ]at hc;exact of_decide_eq_true hc.1
   rw[dx hs,ih (i+1) n (by omega) (by omega) (by omega)]
   conv=>rhs;rw[scanUp,aP (by simpa using hc)]
  |false=>
   rw[hc,ak]at hs;rw[bJ hs,scanUp,aO (by rw[Bool.not_eq_true];simpa using hc)]
theorem oO{step:Int->Option (Int⊕Int)}(p:α->Bool)(d:Array α)(i:Nat)(hi:1<=i)(h:∀j:Nat,j<d.size->step (j:Int)=some (bif decide (i<=j)&&p d[j]! then .inl ((j:Int) -1)else .inr (j:Int))):
 ∀(j n:Nat),j<d.size->j<n->iter step n (j:Int)=some ((scanDown p d i j:Nat):Int)
 | 0,n,hj,hn=>by
  obtain⟨n,rfl⟩:∃m,n=m+1:=⟨n -1,by omega⟩;have hi2:¬i<=0:=by omega
  exact bJ (by rw[h 0 hj];simp[hi2,scanDown])
 |j+1,n,hj,hn=>by
  obtain⟨n,rfl⟩:∃m,n=m+1:=⟨n -1,by omega⟩;have hs:=h (j+1) hj;cases hc:decide (i<=j+1)&&p d[j+1]! with
  |true=>
   rw[hc,aj,show(((j+1:Nat):Int) -1)=(j:Int)by omega]at hs;rw[dx hs,oO p d i hi h j n (by omega) (by omega)]
   conv=>rhs;rw[scanDown,aP (by simpa using hc)]
  |false=>
   rw[hc,ak]at hs;rw[bJ hs,scanDown,aO (by rw[Bool.not_eq_true];simpa using hc)]
variable {C:α->α->Option R} {q:R->Bool} {f:α->α->R} {lt:α->α->Bool}
theorem ajk(hC:∀x y,C x y=some (f x y))(hq:∀x y,q (f x y)=lt x y)(a0:List α)(b:Nat)(d:Array α)(h0:a0.length=d.size)(hs:d.size<1152921504606846976)(hb:b<=d.size):∀(m i n:Nat),b -i<=m->0<i->i<=d.size->m<n->
 iter (d9 C q a0 (b:Int) d.toList) n (i:Int)=some ((scanSorted lt d b i:Nat):Int):=by
 intro m
 induction m with
 |zero=>
  intro i n hm h1 hi hn;obtain⟨n,rfl⟩:∃m,n=m+1:=⟨n -1,by omega⟩;have hi2:¬i<b:=by omega
  have c:decide ((i:Int)<(b:Int))=false:=by simp;omega
  rw[scanSorted,aO (by simp[hi2])];exact bJ (by simp only[d9,c,ak,ah])
 |succ m ih=>
  intro i n hm h1 hi hn;obtain⟨n,rfl⟩:∃m,n=m+1:=⟨n -1,by omega⟩;by_cases hib:i<b
  ·have c:decide ((i:Int)<(b:Int))=true:=(by simpa using hib);have e:i64.wrap ((i:Int) -1)=((i -1:Nat):Int):=w1 h1 (by omega);have g1:i<d.size:=(by omega);have g2:i -1<d.size:=(by omega);cases hl:lt d[i]! d[i -1]! with
   |true=>
    rw[scanSorted,aO (by rw[hl];simp)];exact bJ (by simp only[d9,c,aj,kX (show i<a0.length by omega),fQ g1,ah,e,kX (show i -1<a0.length by omega),fQ g2,hC,hq,hl,Bool.not_true,ak])
   |false=>
    have s:d9 C q a0 (b:Int) d.toList (i:Int)=some (.inl ((i+1:Nat):Int)):=by
     simp only[d9,c,aj,kX (show i<a0.length by omega),fQ g1,ah,e,kX (show i -1<a0.length by omega),fQ g2,hC,hq,hl,Bool.not_false];rw[aR (by omega)]
    rw[dx s,ih (i+1) n (by omega) (by omega) (by omega) (by omega)]
    conv=>rhs;rw[scanSorted,aP (by rw[hl];simp[hib])]
  ·have c:decide ((i:Int)<(b:Int))=false:=(by simp;omega);rw[scanSorted,aO (by simp[hib])];exact bJ (by simp only[d9,c,ak,ah])
theorem XU(d:Array α)(b:Nat):∀(m i:Nat),b -i<=m->i<=scanSorted lt d b i/\(i<=b->scanSorted lt d b i<=b):=by
 intro m
 induction m with
 |zero=>
  intro i hm;have:¬i<b:=by omega
  rw[scanSorted,aO (by simp[this])];exact⟨aQ _,λh=>h⟩
 |succ m ih=>
  intro i hm;rw[scanSorted];split
  ·rename_i hc;have:i<b:=by
    rw[aJ]at hc;exact of_decide_eq_true hc.1
   have:=ih (i+1) (by omega);exact⟨by omega,λ_=>this.2 (by omega)⟩
  ·exact⟨aQ _,λh=>h⟩
theorem Kw:∀(j:Nat)(d:Array α),(shiftDown lt j d).size=d.size
 | 0,d=>rfl
 |j+1,d=>by
  rw[shiftDown];split
  ·rfl
  ·rw[Kw j,size_swp]
theorem abh(hC:∀x y,C x y=some (f x y))(hq:∀x y,q (f x y)=lt x y)(a0:List α):∀(j:Nat)(d:Array α)(n:Nat),a0.length=d.size->d.size<1152921504606846976->j<d.size->j<n->
 iter (eu C q a0) n ((j:Int),d.toList)=some (shiftDown lt j d).toList
 | 0,d,n,h0,hs,hj,hn=>by
  obtain⟨n,rfl⟩:∃m,n=m+1:=⟨n -1,by omega⟩;exact bJ (by simp[eu,shiftDown])
 |j+1,d,n,h0,hs,hj,hn=>by
  obtain⟨n,rfl⟩:∃m,n=m+1:=⟨n -1,by omega⟩;have c:decide (((j+1:Nat):Int)>=1)=true:=by simp;omega
  have e:i64.wrap (((j+1:Nat):Int) -1)=(j:Int):=by rw[w1 (by omega) (by omega)];rfl
  have hj2:j<d.size:=by omega
  have i1:b9 (((j+1:Nat)):Int) a0.length=true:=kX (by omega);have i2:b9 (j:Int) a0.length=true:=kX (by omega);cases hl:lt d[j+1]! d[j]! with
  |true=>
   have s:eu C q a0 (((j+1:Nat):Int),d.toList)=some (.inl ((j:Int),(swp d (j+1) j).toList)):=(by simp only[eu,c,aj,i1,fQ hj,ah,e,i2,fQ hj2,hC,hq,hl,Bool.not_true,ak,GZ,Ko hj2,Kq]);rw[dx s,abh hC hq a0 j _ n (by rw[size_swp];exact h0) (by rw[size_swp];exact hs) (by rw[size_swp];exact hj2) (by omega),shiftDown,aO (by rw[hl];simp)]
  |false=>
   rw[shiftDown,aP (by rw[hl];rfl)];exact bJ (by simp only[eu,c,aj,i1,fQ hj,ah,e,i2,fQ hj2,hC,hq,hl,Bool.not_false])
theorem acD(b:Nat):∀(m j:Nat)(d:Array α),b -j<=m->(shiftUp lt b j d).size=d.size:=by
 intro m
 induction m with
 |zero=>
  intro j d hm;rw[shiftUp,aO (by omega)]
 |succ m ih=>
  intro j d hm;rw[shiftUp];split
  ·split
   ·rfl
   ·rw[ih _ _ (by omega),size_swp]
  ·rfl
theorem ajl(hC:∀x y,C x y=some (f x y))(hq:∀x y,q (f x y)=lt x y)(a0:List α)(b:Nat):∀(m j:Nat)(d:Array α)(n:Nat),b -j<=m->0<j->a0.length=d.size->d.size<1152921504606846976->b<=d.size->m<n->
 iter (dK C q a0 (b:Int)) n ((j:Int),d.toList)=some (shiftUp lt b j d).toList:=by
 intro m
 induction m with
 |zero=>
  intro j d n hm hj h0 hs hb hn;obtain⟨n,rfl⟩:∃m,n=m+1:=⟨n -1,by omega⟩;have c:decide ((j:Int)<(b:Int))=false:=by simp;omega
  rw[shiftUp,aO (by omega)];exact bJ (by simp only[dK,c,ak])
 |succ m ih=>
  intro j d n hm hj h0 hs hb hn;obtain⟨n,rfl⟩:∃m,n=m+1:=⟨n -1,by omega⟩;by_cases hjb:j<b
  ·have c:decide ((j:Int)<(b:Int))=true:=(by simpa using hjb);have e:i64.wrap ((j:Int) -1)=((j -1:Nat):Int):=w1 hj (by omega);have g1:j<d.size:=(by omega);have g2:j -1<d.size:=(by omega);have i1:b9 (j:Int) a0.length=true:=kX (by omega);have i2:b9 ((j -1:Nat):Int) a0.length=true:=kX (by omega);cases hl:lt d[j]! d[j -1]! with
   |true=>
    have s:dK C q a0 (b:Int) ((j:Int),d.toList)=some (.inl (((j+1:Nat):Int),(swp d j (j -1)).toList)):=by
     simp only[dK,c,aj,i1,fQ g1,ah,e,i2,fQ g2,hC,hq,hl,Bool.not_true,ak,GZ,Ko g2,Kq];rw[aR (by omega)]
    rw[dx s,ih (j+1) _ n (by omega) (by omega) (by rw[size_swp];exact h0) (by rw[size_swp];exact hs) (by rw[size_swp];exact hb) (by omega)]
    conv=>rhs;rw[shiftUp,aP hjb,aO (by rw[hl];simp)]
   |false=>
    rw[shiftUp,aP hjb,aP (by rw[hl];rfl)];exact bJ (by simp only[dK,c,aj,i1,fQ g1,ah,e,i2,fQ g2,hC,hq,hl,Bool.not_false])
  ·have c:decide ((j:Int)<(b:Int))=false:=(by simp;omega);rw[shiftUp,aO hjb];exact bJ (by simp only[dK,c,ak])
theorem acE(a i:Nat)(d:Array α):(fixDown lt a i d).size=d.size:=by
 unfold fixDown;split
 ·exact Kw _ _
 ·rfl
theorem agQ(b i:Nat)(d:Array α):(fixUp lt b i d).size=d.size:=by
 unfold fixUp;split
 ·exact acD b b _ _ (by omega)
 ·rfl
theorem ajm(hC:∀x y,C x y=some (f x y))(hq:∀x y,q (f x y)=lt x y)(a0:List α)(a b:Nat){n:Nat}:∀(s i:Nat)(d:Array α)(k:Nat),s<=5->a<i->i<=b->a0.length=d.size->d.size<1152921504606846976->b<=d.size->d.size<n->s<k->
 ∃r,iter (dL C q n a0 (a:Int) (b:Int)) k ((i:Int),((5 -s:Nat):Int),d.toList)=some r/\(partialIns lt a b s i d).1.size=d.size/\
  (r= .inl (partialIns lt a b s i d).1.toList/\(partialIns lt a b s i d).2=false\/r= .inr ((partialIns lt a b s i d).2,(partialIns lt a b s i d).1.toList)):=by
 intro s
 induction s with
 |zero=>
  intro i d k h5 hai hib h0 hs hb hn hk;obtain⟨k,rfl⟩:∃m,k=m+1:=⟨k -1,by omega⟩;exact⟨.inl d.toList,bJ (by simp[dL]),rfl,.inl ⟨rfl,rfl⟩⟩
 |succ s ih=>
  intro i d k h5 hai hib h0 hs hb hn hk;obtain⟨k,rfl⟩:∃m,k=m+1:=⟨k -1,by omega⟩;have c5:decide (((5 -(s+1):Nat):Int)<5)=true:=by simp;omega
  have sc:=ajk hC hq a0 b d h0 hs hb b i n (by omega) (by omega) (by omega) (by omega);obtain⟨r1,r2⟩:=XU (lt:=lt) d b b i (by omega);have r2:=r2 hib;rw[partialIns_succ];generalize scanSorted lt d b i=I at*;by_cases Q3:I=b
  ·refine⟨.inr (true,d.toList),bJ ?_,by rw[aP Q3],.inr (by rw[aP Q3])⟩;have cb:((I:Int)==(b:Int))=true:=(by rw[beq_iff_eq];omega);simp only[dL,c5,aj,sc,ah,cb,Option.map_some,fH]
  ·have cb:((I:Int)==(b:Int))=false:=(by rw[beq_eq_false_iff_ne];omega);have eab:i64.wrap ((b:Int) -(a:Int))=((b -a:Nat):Int):=Kr (by omega) (by omega);rw[aO Q3];by_cases h50:b -a<50
   ·have By:decide (((b -a:Nat):Int)<50)=true:=(by simp;omega);refine⟨.inr (false,d.toList),bJ ?_,by rw[aP h50],.inr (by rw[aP h50])⟩;simp only[dL,c5,aj,sc,ah,cb,ak,eab,By,Option.map_some,fH]
   ·have By:decide (((b -a:Nat):Int)<50)=false:=(by simp;omega);rw[aO h50];have g1:I<d.size:=(by omega);have g2:I -1<d.size:=(by omega);have i1:b9 (I:Int) a0.length=true:=kX (by omega);have i2:b9 ((I -1:Nat):Int) a0.length=true:=kX (by omega);have e:i64.wrap ((I:Int) -1)=((I -1:Nat):Int):=w1 (by omega) (by omega);have ea:i64.wrap ((I:Int) -(a:Int))=((I -a:Nat):Int):=Kr (by omega) (by omega);have eb:i64.wrap ((b:Int) -(I:Int))=((b -I:Nat):Int):=Kr (by omega) (by omega);have zS:(swp d I (I -1)).size=d.size:=size_swp _ _ _;have fd:((bif (decide (((I -a:Nat):Int)>=(2:Int)))then(iter (eu C q a0) n (((I -1:Nat):Int),(swp d I (I -1)).toList)).bind λw2=>some w2 else some (swp d I (I -1)).toList):Option (List α))=some (fixDown lt a I (swp d I (I -1))).toList:=by
     unfold fixDown;by_cases h2:I -a>=2
     ·have c2:decide (((I -a:Nat):Int)>=2)=true:=(by simp;omega);rw[c2,aj,abh hC hq a0 (I -1) _ n (by rw[zS];exact h0) (by rw[zS];exact hs) (by rw[zS];exact g2) (by omega),aP h2];rfl
     ·have c2:decide (((I -a:Nat):Int)>=2)=false:=(by simp;omega);rw[c2,ak,aO h2]
    have zD:(fixDown lt a I (swp d I (I -1))).size=d.size:=(by rw[acE,zS]);have fu:((bif (decide (((b -I:Nat):Int)>=(2:Int)))then(iter (dK C q a0 (b:Int)) n (((I+1:Nat):Int),(fixDown lt a I (swp d I (I -1))).toList)).bind λw3=>some (.inl ((I:Int),w3))else some (.inl ((I:Int),(fixDown lt a I (swp d I (I -1))).toList))):Option ((Int×List α)⊕((Int×Int×List α)⊕((List α)⊕(Bool×(List α))))))=some (.inl ((I:Int),(fixUp lt b I (fixDown lt a I (swp d I (I -1)))).toList)):=by
     unfold fixUp;by_cases h2:b -I>=2
     ·have c2:decide (((b -I:Nat):Int)>=2)=true:=(by simp;omega);rw[c2,aj,ajl hC hq a0 b b (I+1) _ n (by omega) (by omega) (by rw[zD];exact h0) (by rw[zD];exact hs) (by rw[zD];exact hb) (by omega),aP h2];rfl
     ·have c2:decide (((b -I:Nat):Int)>=2)=false:=(by simp;omega);rw[c2,ak,aO h2]
    have zU:(fixUp lt b I (fixDown lt a I (swp d I (I -1)))).size=d.size:=(by rw[agQ,zD]);have s1:dL C q n a0 (a:Int) (b:Int) ((i:Int),((5 -(s+1):Nat):Int),d.toList)=some (.inl ((I:Int),((5 -s:Nat):Int),(fixUp lt b I (fixDown lt a I (swp d I (I -1)))).toList)):=by
     simp only[dL,c5,aj,sc,ah,cb,ak,eab,By,e,i2,fQ g2,i1,fQ g1,GZ,Ko g2,Kq,ea,eb,fd];rw[aR (by omega),fu,aR (by omega),show 5 -(s+1)+1=5 -s by omega];rfl
    obtain⟨r,g1,g2,g3⟩:=ih I (fixUp lt b I (fixDown lt a I (swp d I (I -1)))) k (by omega) (by omega) (by omega) (by rw[zU];exact h0) (by rw[zU];exact hs) (by rw[zU];exact hb) (by rw[zU];exact hn) (by omega);exact⟨r,by rw[dx s1];exact g1,by rw[g2,zU],g3⟩
theorem DF(hC:∀x y,C x y=some (f x y))(hq:∀x y,q (f x y)=lt x y){d:Array α}{a b n:Nat}(hab:a<b)(hb:b<=d.size)(hs:d.size<1152921504606846976)(hn:d.size<n)(hn5:5<n):
 fE C q n d.toList (a:Int) (b:Int)=some ((partialInsertionSort lt d a b).2,(partialInsertionSort lt d a b).1.toList)/\(partialInsertionSort lt d a b).1.size=d.size:=by
 unfold fE partialInsertionSort;obtain⟨r,h1,h2,h3⟩:=ajm hC hq d.toList a b 5 (a+1) d n (by omega) (by omega) (by omega) (by simp) hs hb hn hn5;refine⟨?_,h2⟩;rw[aR (by omega)];have h1':iter (dL C q n d.toList (a:Int) (b:Int)) n (((a+1:Nat):Int),(0:Int),d.toList)=some r:=h1;rw[h1'];rcases h3 with ⟨h3,h4⟩ |h3
 ·rw[h3,h4];rfl
 ·rw[h3];rfl
theorem aok(hC:∀x y,C x y=some (f x y))(hq:∀x y,q (f x y)=lt x y)(a0:List α)(d:Array α){a j:Nat}(h0:a0.length=d.size)(hs:d.size<1152921504606846976)(ha:a<d.size)(hj:j<d.size)(i:Nat)(hi:i<=j+2):
 nW C q a0 (a:Int) (j:Int) d.toList (i:Int)=some (bif decide (i<=j)&&(λ x=>!lt d[a]! x) d[i]! then .inl ((i+1:Nat):Int)else .inr (i:Int)):=by
 by_cases h:i<=j
 ·have c:decide ((i:Int)<=(j:Int))=true:=by simpa using h
  have g:i<d.size:=by omega
  simp only[nW,c,aj,kX (show a<a0.length by omega),fQ ha,ah,kX (show i<a0.length by omega),fQ g,hC,hq,h,decide_true,Bool.true_and];rw[aR (by omega)];cases lt d[a]! d[i]! <;>rfl
 ·have c:decide ((i:Int)<=(j:Int))=false:=by simp;omega
  simp only[nW,c,ak,ah,h,decide_false,Bool.false_and]
theorem aol(hC:∀x y,C x y=some (f x y))(hq:∀x y,q (f x y)=lt x y)(a0:List α)(d:Array α){a i:Nat}(h0:a0.length=d.size)(hs:d.size<1152921504606846976)(ha:a<d.size)(j:Nat)(hj:j<d.size):
 nX C q a0 (a:Int) d.toList (i:Int) (j:Int)=some (bif decide (i<=j)&&(λ x=>lt d[a]! x) d[j]! then .inl ((j:Int) -1)else .inr (j:Int)):=by
 by_cases h:i<=j
 ·have c:decide ((i:Int)<=(j:Int))=true:=by simpa using h
  simp only[nX,c,aj,kX (show a<a0.length by omega),fQ ha,ah,kX (show j<a0.length by omega),fQ hj,hC,hq,h,decide_true,Bool.true_and];rw[bU (by omega) (by omega)];cases lt d[a]! d[j]! <;>rfl
 ·have c:decide ((i:Int)<=(j:Int))=false:=by simp;omega
  simp only[nX,c,ak,ah,h,decide_false,Bool.false_and]
theorem akV(hC:∀x y,C x y=some (f x y))(hq:∀x y,q (f x y)=lt x y)(a0:List α)(a:Nat){n:Nat}:∀(m i j:Nat)(d:Array α)(k:Nat),j+1 -i<=m->1<=i->i<=j+2->a0.length=d.size->d.size<1152921504606846976->a<d.size->j<d.size->d.size<n->m<k->
 iter (iW C q n a0 (a:Int)) k ((i:Int),(j:Int),d.toList)=some (((partEqLoop lt a i j d).1:Int),(partEqLoop lt a i j d).2.toList)/\(partEqLoop lt a i j d).2.size=d.size:=by
 intro m
 induction m with
 |zero=>
  intro i j d k hm h1 hij h0 hs ha hj hn hk;obtain⟨k,rfl⟩:∃m,k=m+1:=⟨k -1,by omega⟩;have s2:=xI (λ x=>!lt d[a]! x) d j (aok hC hq a0 d h0 hs ha hj) (j+1) i n (by omega) hij (by omega);have u1:=scanUp_ge (λ x=>!lt d[a]! x) d j i;have u2:=scanDown_le (λ x=>lt d[a]! x) d (scanUp (λ x=>!lt d[a]! x) d j i) j;have s3:=oO (λ x=>lt d[a]! x) d (scanUp (λ x=>!lt d[a]! x) d j i) (by omega) (aol hC hq a0 d h0 hs ha) j n hj (by omega);rw[partEqLoop_eq];have hc:scanUp (λ x=>!lt d[a]! x) d j i>scanDown (λ x=>lt d[a]! x) d (scanUp (λ x=>!lt d[a]! x) d j i) j:=by omega
  have c:decide (((scanUp (λ x=>!lt d[a]! x) d j i:Nat):Int)>((scanDown (λ x=>lt d[a]! x) d (scanUp (λ x=>!lt d[a]! x) d j i) j:Nat):Int))=true:=by simp;omega
  rw[aP hc];exact⟨bJ (by simp only[iW,s2,ah,s3,c,aj]),rfl⟩
 |succ m ih=>
  intro i j d k hm h1 hij h0 hs ha hj hn hk;obtain⟨k,rfl⟩:∃m,k=m+1:=⟨k -1,by omega⟩;have s2:=xI (λ x=>!lt d[a]! x) d j (aok hC hq a0 d h0 hs ha hj) (j+1) i n (by omega) hij (by omega);have u1:=scanUp_ge (λ x=>!lt d[a]! x) d j i;have u2:=scanDown_le (λ x=>lt d[a]! x) d (scanUp (λ x=>!lt d[a]! x) d j i) j;have s3:=oO (λ x=>lt d[a]! x) d (scanUp (λ x=>!lt d[a]! x) d j i) (by omega) (aol hC hq a0 d h0 hs ha) j n hj (by omega);rw[partEqLoop_eq];generalize scanUp (λ x=>!lt d[a]! x) d j i=I at*;generalize scanDown (λ x=>lt d[a]! x) d I j=J at*;by_cases hc:I>J
  ·have c:decide ((I:Int)>(J:Int))=true:=(by simp;omega);rw[aP hc];exact⟨bJ (by simp only[iW,s2,ah,s3,c,aj]),rfl⟩
  ·have c:decide ((I:Int)>(J:Int))=false:=(by simp;omega);rw[aO hc];have gI:I<d.size:=(by omega);have gJ:J<d.size:=(by omega);have s:iW C q n a0 (a:Int) ((i:Int),(j:Int),d.toList)=some (.inl (((I+1:Nat):Int),((J -1:Nat):Int),(swp d I J).toList)):=by
    simp only[iW,s2,ah,s3,c,ak,kX (show J<a0.length by omega),kX (show I<a0.length by omega),aj,fQ gJ,fQ gI,GZ,Ko gJ,Kq];rw[aR (by omega),w1 (by omega) (by omega)]
   have zz:(swp d I J).size=d.size:=size_swp _ _ _;obtain⟨g1,g2⟩:=ih (I+1) (J -1) (swp d I J) k (by omega) (by omega) (by omega) (by rw[zz];exact h0) (by rw[zz];exact hs) (by rw[zz];exact ha) (by rw[zz];omega) (by rw[zz];exact hn) (by omega);exact⟨by rw[dx s];exact g1,by rw[g2,zz]⟩
theorem NC(hC:∀x y,C x y=some (f x y))(hq:∀x y,q (f x y)=lt x y){d:Array α}{a b p n:Nat}(hap:a<=p)(hpb:p<b)(hb:b<=d.size)(hs:d.size<1152921504606846976)(hn:d.size<n):
 jC C q n d.toList (a:Int) (b:Int) (p:Int)=some (((partitionEqual lt d a b p).1:Int),(partitionEqual lt d a b p).2.toList)/\(partitionEqual lt d a b p).2.size=d.size:=by
 unfold jC partitionEqual;have ga:a<d.size:=by omega
 have gp:p<d.size:=by omega
 have zz:(swp d a p).size=d.size:=size_swp _ _ _;obtain⟨g1,g2⟩:=akV hC hq d.toList a d.size (a+1) (b -1) (swp d a p) n (by omega) (by omega) (by omega) (by rw[zz];simp) (by rw[zz];exact hs) (by rw[zz];exact ga) (by rw[zz];omega) (by rw[zz];exact hn) hn;refine⟨?_,by rw[g2,zz]⟩;have ll:d.toList.length=d.size:=by simp
 simp only[kX (show p<d.toList.length by omega),kX (show a<d.toList.length by omega),aj,fQ gp,fQ ga,ah,GZ,Ko gp,Kq];rw[aR (by omega),w1 (by omega) (by omega),g1];rfl
theorem S6(hC:∀x y,C x y=some (f x y))(hq:∀x y,q (f x y)=lt x y)(a0:List α)(d:Array α){a j:Nat}(h0:a0.length=d.size)(hs:d.size<1152921504606846976)(ha:a<d.size)(hj:j<d.size)(i:Nat)(hi:i<=j+2):
 mQ C q a0 (a:Int) (j:Int) d.toList (i:Int)=some (bif decide (i<=j)&&(λ x=>lt x d[a]!) d[i]! then .inl ((i+1:Nat):Int)else .inr (i:Int)):=by
 by_cases h:i<=j
 ·have c:decide ((i:Int)<=(j:Int))=true:=by simpa using h
  have g:i<d.size:=by omega
  simp only[mQ,c,aj,kX (show a<a0.length by omega),fQ ha,ah,kX (show i<a0.length by omega),fQ g,hC,hq,h,decide_true,Bool.true_and];rw[aR (by omega)];cases lt d[i]! d[a]! <;>rfl
 ·have c:decide ((i:Int)<=(j:Int))=false:=by simp;omega
  simp only[mQ,c,ak,ah,h,decide_false,Bool.false_and]
theorem S5(hC:∀x y,C x y=some (f x y))(hq:∀x y,q (f x y)=lt x y)(a0:List α)(d:Array α){a i:Nat}(h0:a0.length=d.size)(hs:d.size<1152921504606846976)(ha:a<d.size)(j:Nat)(hj:j<d.size):
 mR C q a0 (a:Int) d.toList (i:Int) (j:Int)=some (bif decide (i<=j)&&(λ x=>!lt x d[a]!) d[j]! then .inl ((j:Int) -1)else .inr (j:Int)):=by
 by_cases h:i<=j
 ·have c:decide ((i:Int)<=(j:Int))=true:=by simpa using h
  simp only[mR,c,aj,kX (show a<a0.length by omega),fQ ha,ah,kX (show j<a0.length by omega),fQ hj,hC,hq,h,decide_true,Bool.true_and];rw[bU (by omega) (by omega)];cases lt d[j]! d[a]! <;>rfl
 ·have c:decide ((i:Int)<=(j:Int))=false:=by simp;omega
  simp only[mR,c,ak,ah,h,decide_false,Bool.false_and]
theorem aoD(a0:List α)(d:Array α){a b p:Nat}(hb:0<b)(hs:d.size<1152921504606846976)(hbs:b<=d.size)(he:((a0.set (((0:Nat):Int)+(a:Int)).toNat a0[p]!).set (((0:Nat):Int)+(p:Int)).toNat a0[a]!)=d.toList)(v:Int):
 rD C q a0 (a:Int) (b:Int) (p:Int) a0[p]! a0[a]! v=mQ C q a0 (a:Int) ((b -1:Nat):Int) d.toList v:=by
 simp only[rD,mQ,he];rw[w1 hb (by omega)]
theorem aoE(a0:List α)(d:Array α){a p:Nat}{w:Int}(he:((a0.set (((0:Nat):Int)+(a:Int)).toNat a0[p]!).set (((0:Nat):Int)+(p:Int)).toNat a0[a]!)=d.toList)(v:Int):
 rE C q a0 (a:Int) (p:Int) a0[p]! a0[a]! w v=mR C q a0 (a:Int) d.toList w v:=by simp only[rE,mR,he]
theorem akW(hC:∀x y,C x y=some (f x y))(hq:∀x y,q (f x y)=lt x y)(a0:List α)(a:Nat){n:Nat}:∀(m i j:Nat)(d:Array α)(k:Nat),j+1 -i<=m->1<=i->i<=j+2->a0.length=d.size->d.size<1152921504606846976->a<d.size->j<d.size->d.size<n->m<k->
 iter (oM C q n a0 (a:Int)) k ((i:Int),(j:Int),d.toList)=some (((partLoop lt a i j d).1:Int),(partLoop lt a i j d).2.toList)/\(partLoop lt a i j d).2.size=d.size/\(partLoop lt a i j d).1<=j:=by
 intro m
 induction m with
 |zero=>
  intro i j d k hm h1 hij h0 hs ha hj hn hk;obtain⟨k,rfl⟩:∃m,k=m+1:=⟨k -1,by omega⟩;have s2:=xI (λ x=>lt x d[a]!) d j (S6 hC hq a0 d h0 hs ha hj) (j+1) i n (by omega) hij (by omega);have u1:=scanUp_ge (λ x=>lt x d[a]!) d j i;have u2:=scanDown_le (λ x=>!lt x d[a]!) d (scanUp (λ x=>lt x d[a]!) d j i) j;have s3:=oO (λ x=>!lt x d[a]!) d (scanUp (λ x=>lt x d[a]!) d j i) (by omega) (S5 hC hq a0 d h0 hs ha) j n hj (by omega);rw[partLoop_eq];have hc:scanUp (λ x=>lt x d[a]!) d j i>scanDown (λ x=>!lt x d[a]!) d (scanUp (λ x=>lt x d[a]!) d j i) j:=by omega
  have c:decide (((scanUp (λ x=>lt x d[a]!) d j i:Nat):Int)>((scanDown (λ x=>!lt x d[a]!) d (scanUp (λ x=>lt x d[a]!) d j i) j:Nat):Int))=true:=by simp;omega
  rw[aP hc];exact⟨bJ (by simp only[oM,s2,ah,s3,c,aj]),rfl,u2⟩
 |succ m ih=>
  intro i j d k hm h1 hij h0 hs ha hj hn hk;obtain⟨k,rfl⟩:∃m,k=m+1:=⟨k -1,by omega⟩;have s2:=xI (λ x=>lt x d[a]!) d j (S6 hC hq a0 d h0 hs ha hj) (j+1) i n (by omega) hij (by omega);have u1:=scanUp_ge (λ x=>lt x d[a]!) d j i;have u2:=scanDown_le (λ x=>!lt x d[a]!) d (scanUp (λ x=>lt x d[a]!) d j i) j;have s3:=oO (λ x=>!lt x d[a]!) d (scanUp (λ x=>lt x d[a]!) d j i) (by omega) (S5 hC hq a0 d h0 hs ha) j n hj (by omega);rw[partLoop_eq];generalize scanUp (λ x=>lt x d[a]!) d j i=I at*;generalize scanDown (λ x=>!lt x d[a]!) d I j=J at*;by_cases hc:I>J
  ·have c:decide ((I:Int)>(J:Int))=true:=(by simp;omega);rw[aP hc];exact⟨bJ (by simp only[oM,s2,ah,s3,c,aj]),rfl,u2⟩
  ·have c:decide ((I:Int)>(J:Int))=false:=(by simp;omega);rw[aO hc];have gI:I<d.size:=(by omega);have gJ:J<d.size:=(by omega);have s:oM C q n a0 (a:Int) ((i:Int),(j:Int),d.toList)=some (.inl (((I+1:Nat):Int),((J -1:Nat):Int),(swp d I J).toList)):=by
    simp only[oM,s2,ah,s3,c,ak,kX (show J<a0.length by omega),kX (show I<a0.length by omega),aj,fQ gJ,fQ gI,GZ,Ko gJ,Kq];rw[aR (by omega),w1 (by omega) (by omega)]
   have zz:(swp d I J).size=d.size:=size_swp _ _ _;obtain⟨g1,g2,g3⟩:=ih (I+1) (J -1) (swp d I J) k (by omega) (by omega) (by omega) (by rw[zz];exact h0) (by rw[zz];exact hs) (by rw[zz];exact ha) (by rw[zz];omega) (by rw[zz];exact hn) (by omega);exact⟨by rw[dx s];exact g1,by rw[g2,zz],by omega⟩
theorem ZR(hC:∀x y,C x y=some (f x y))(hq:∀x y,q (f x y)=lt x y){d:Array α}{a b p n:Nat}(hap:a<=p)(hpb:p<b)(hb:b<=d.size)(hs:d.size<1152921504606846976)(hn:d.size<n):
 sN C q n d.toList (a:Int) (b:Int) (p:Int)=some (((partition lt d a b p).1:Int),(partition lt d a b p).2.1,(partition lt d a b p).2.2.toList)/\(partition lt d a b p).2.2.size=d.size:=by
 have ga:a<d.size:=by omega
 have gp:p<d.size:=by omega
 have zz:(swp d a p).size=d.size:=size_swp _ _ _;have ll:d.toList.length=d.size:=by simp
 have ea:d.toList[a]! =d[a]! :=by rw[getElem!_pos d a ga,getElem!_pos d.toList a (by omega)];simp
 have ep:d.toList[p]! =d[p]! :=by rw[getElem!_pos d p gp,getElem!_pos d.toList p (by omega)];simp
 have he:((d.toList.set (((0:Nat):Int)+(a:Int)).toNat d.toList[p]!).set (((0:Nat):Int)+(p:Int)).toNat d.toList[a]!)=(swp d a p).toList:=by rw[ea,ep,GZ,GZ];rfl
 have h0:d.toList.length=(swp d a p).size:=by rw[zz,ll]
 have s1:iter (rD C q d.toList (a:Int) (b:Int) (p:Int) d[p]! d[a]!) n ((a+1:Nat):Int)=some ((scanUp (λ x=>lt x (swp d a p)[a]!) (swp d a p) (b -1) (a+1):Nat):Int):=by
  rw[<- ea,<- ep,show rD C q d.toList (a:Int) (b:Int) (p:Int) d.toList[p]! d.toList[a]! =mQ C q d.toList (a:Int) ((b -1:Nat):Int) (swp d a p).toList from funext λv=>aoD d.toList (swp d a p) (by omega) (by rw[zz];exact hs) (by rw[zz];exact hb) he v];exact xI (λ x=>lt x (swp d a p)[a]!) (swp d a p) (b -1) (S6 hC hq d.toList (swp d a p) h0 (by rw[zz];exact hs) (by rw[zz];exact ga) (by rw[zz];omega)) (b -1+1) (a+1) n (by omega) (by omega) (by omega)
 have u1:=scanUp_ge (λ x=>lt x (swp d a p)[a]!) (swp d a p) (b -1) (a+1);have s2:iter (rE C q d.toList (a:Int) (p:Int) d[p]! d[a]! ((scanUp (λ x=>lt x (swp d a p)[a]!) (swp d a p) (b -1) (a+1):Nat):Int)) n ((b -1:Nat):Int)=some ((scanDown (λ x=>!lt x (swp d a p)[a]!) (swp d a p) (scanUp (λ x=>lt x (swp d a p)[a]!) (swp d a p) (b -1) (a+1)) (b -1):Nat):Int):=by
  rw[<- ea,<- ep,show rE C q d.toList (a:Int) (p:Int) d.toList[p]! d.toList[a]! ((scanUp (λ x=>lt x (swp d a p)[a]!) (swp d a p) (b -1) (a+1):Nat):Int)=mR C q d.toList (a:Int) (swp d a p).toList ((scanUp (λ x=>lt x (swp d a p)[a]!) (swp d a p) (b -1) (a+1):Nat):Int)from funext λv=>aoE d.toList (swp d a p) he v];exact oO (λ x=>!lt x (swp d a p)[a]!) (swp d a p) _ (by omega) (S5 hC hq d.toList (swp d a p) h0 (by rw[zz];exact hs) (by rw[zz];exact ga)) (b -1) n (by rw[zz];omega) (by omega)
 have u2:=scanDown_le (λ x=>!lt x (swp d a p)[a]!) (swp d a p) (scanUp (λ x=>lt x (swp d a p)[a]!) (swp d a p) (b -1) (a+1)) (b -1);unfold sN partition;simp only[kX (show p<d.toList.length by omega),kX (show a<d.toList.length by omega),aj,fQ gp,fQ ga,ah,GZ,Ko gp,Kq];rw[aR (by omega),w1 (by omega) (by omega),s1];simp only[ah];rw[s2];simp only[ah];generalize swp d a p=D at*;generalize scanUp (λ x=>lt x D[a]!) D (b -1) (a+1)=I at*;generalize scanDown (λ x=>!lt x D[a]!) D I (b -1)=J at*;have gJ:J<D.size:=by omega
 have gA':a<D.size:=by omega
 by_cases hc:I>J
 ·have c:decide ((I:Int)>(J:Int))=true:=by simp;omega
  rw[aP hc];refine⟨?_,by simp[size_swp,zz]⟩;simp only[c,aj,kX (show J<d.toList.length by omega),fQ gJ,fQ gA',ah,GZ,Ko gA',Kq]
 ·have c:decide ((I:Int)>(J:Int))=false:=by simp;omega
  rw[aO hc];have gI:I<D.size:=by omega
  have zD:(swp D I J).size=D.size:=size_swp _ _ _;obtain⟨g1,g2,g3⟩:=akW (n:=n) hC hq d.toList a d.size (I+1) (J -1) (swp D I J) n (by omega) (by omega) (by omega) (by omega) (by omega) (by omega) (by omega) (by omega) hn;generalize partLoop lt a (I+1) (J -1) (swp D I J)=L at*;have gL:L.1<L.2.size:=by omega
  have gLa:a<L.2.size:=by omega
  refine⟨?_,by simp only[size_swp];omega⟩;simp only[c,ak,aj,kX (show J<d.toList.length by omega),kX (show I<d.toList.length by omega),fQ gJ,fQ gI,ah,GZ,Ko gJ,Kq];rw[aR (by omega),w1 (by omega) (by omega),g1];simp only[ah,aj,kX (show L.1<d.toList.length by omega),fQ gL,fQ gLa,GZ,Ko gLa,Kq]
end
section
variable {α R:Type} [Inhabited α]
def DS(C:α->α->Option R)(q:R->Bool)(n:Nat)(rc:((List α))->(Int)->(Int)->(Int)->Option (List α))(a0:List α)(v1 v2 v7:Int)(v4 v5:Bool)(v9:Int)(v13:List α):Option ((Int×Int×Int×Bool×Bool×(List α))⊕(Unit⊕(List α))):=
 ((bif (decide (v1>(0:Int)))then bif b9 (i64.wrap (v1 -1)) a0.length then(bo v13 ((0:Nat)+(i64.wrap (v1 -1)):Int)).bind λx1=>bif b9 v9 a0.length then(bo v13 ((0:Nat)+v9:Int)).bind λx2=>(C x1 x2).bind λr7=>some (!(q r7))else none else none else some false):Option (Bool)).bind λv14=>(bif v14 then bif bk a0.length v13.length then(jC C q n v13 v1 v2 v9).bind λr8=>some (.inl (r8.1,v2,v7,v4,v5,r8.2))else none else bif bk a0.length v13.length then(sN C q n v13 v1 v2 v9).bind λr9=>bif 8 !=0 then(bif (decide ((i64.wrap (r9.1 -v1))<((i64.wrap (v2 -r9.1)):Int)))then bif bk a0.length r9.2.2.length then(rc r9.2.2 v1 r9.1 v7).bind λtx=>some (.inl ((i64.wrap (r9.1+1)),v2,v7,(decide ((i64.wrap (r9.1 -v1))>=((i64.wrap (Int.tdiv (i64.wrap (v2 -v1)) 8)):Int))),r9.2.1,tx))else none else bif bk a0.length r9.2.2.length then(rc r9.2.2 (i64.wrap (r9.1+1)) v2 v7).bind λkO=>some (.inl (v1,r9.1,v7,(decide ((i64.wrap (v2 -r9.1))>=((i64.wrap (Int.tdiv (i64.wrap (v2 -v1)) 8)):Int))),r9.2.1,kO))else none)else none else none)
variable {C:α->α->Option R} {q:R->Bool} {f:α->α->R} {lt:α->α->Bool} {ju:Int->Option Int} {lv:Int->Option (Int×Int)}
theorem Pm(d:Array α){a b:Nat}(hab:a<=b)(hb:b<=d.size):(reverseRange d a b).size=d.size:=(reverseRange_holds d a b hab hb).1
theorem ND(d:Array α){a b:Nat}(hab:a<=b)(hb:b<=d.size):(breakPatterns d a b).size=d.size:=(breakPatterns_holds d a b hab hb).1
theorem LM(hC:∀x y,C x y=some (f x y))(hq:∀x y,q (f x y)=lt x y)(hnp:D3 ju)(hx:XT lv){n:Nat}{rc:((List α))->(Int)->(Int)->(Int)->Option (List α)}{a0:List α}{d d1 d2:Array α}{a b limit limit' pivot:Nat}{wb wp:Bool}{c:Nat×Hint}{hint:Hint}{pi:Array α×Bool}
 (h0:a0.length=d.size) (hb:b<=d.size) (hs:d.size<1152921504606846976) (hn:d.size<n) (h12:¬b -a<=12) (hl:¬limit=0) (hlm:limit<1152921504606846976)
 (e1:d1=if !wb then breakPatterns d a b else d) (el:limit'=if !wb then limit -1 else limit) (ec:c=choosePivot lt d1 a b) (e2:d2=if c.2= .decreasing then reverseRange d1 a b else d1)
 (ep:pivot=if c.2= .decreasing then(b -1) -(c.1 -a)else c.1) (eh:hint=if c.2= .decreasing then Hint.increasing else c.2)
 (ei:pi=if wb&&wp&&decide (hint= .increasing)then partialInsertionSort lt d2 a b else(d2,false)):
 tO C q ju lv n rc a0 ((a:Int),(b:Int),(limit:Int),wb,wp,d.toList)=if pi.2 then some (.inr (.inr pi.1.toList))else DS C q n rc a0 (a:Int) (b:Int) (limit':Int) wb wp (pivot:Int) pi.1.toList:=by
 have E1:i64.wrap ((b:Int) -(a:Int))=((b -a:Nat):Int):=Kr (by omega) (by omega);have c12:decide (((b -a:Nat):Int)<=12)=false:=by simp;omega
 have cl:((limit:Int)==0)=false:=by rw[beq_eq_false_iff_ne];omega
 have s1:d1.size=d.size:=by
  rw[e1];split
  ·exact ND d (by omega) hb
  ·rfl
 have s2:d2.size=d.size:=by
  rw[e2];split
  ·rw[Pm d1 (by omega) (by omega),s1]
  ·exact s1
 have ch1:((bif (!wb)then bif bk a0.length d.toList.length then(kI ju lv n d.toList (a:Int) (b:Int)).bind λr3=>some ((i64.wrap ((limit:Int) -1)),r3)else none else some ((limit:Int),d.toList)):Option (Int×(List α)))=some ((limit':Int),d1.toList):=by
  rw[e1,el];cases wb with
  |true=>rfl
  |false=>
   rw[XQ (by simpa using h0),Pk hnp hx (by omega) hb hs (by omega),w1 (by omega) (by omega)];rfl
 have hsub:(sub d1.toList 0 a0.length)=d1.toList:=by rw[show a0.length=d1.toList.length by rw[h0,<- s1];simp,cZ]
 have hcr:=choosePivot_holds lt d1 a b (by omega);rw[<- ec]at hcr;have ch2:=Uu hC hq (d:=d1) (a:=a) (b:=b) (by omega) (by omega) (by omega);rw[<- ec]at ch2;have ch3:((bif ((TY c.2)==(2:Int))then bif bk a0.length d1.toList.length then(mO n d1.toList (a:Int) (b:Int)).bind λr5=>some ((i64.wrap ((i64.wrap ((b:Int) -1)) -(i64.wrap ((c.1:Int) -(a:Int))))),(1:Int),r5)else none else some ((c.1:Int),TY c.2,d1.toList)):Option (Int×Int×(List α)))=some ((pivot:Int),TY hint,d2.toList):=by
  rw[e2,ep,eh];cases hh:c.2 with
  |decreasing=>
   rw[XQ (by rw[h0,<- s1];simp),RB (by omega) (by omega) (by omega) (by omega),w1 (by omega) (by omega),Kr hcr.1 (by omega),Kr (by omega) (by omega)];rfl
  |increasing=>rfl
  |unknown=>rfl
 have ch4:(((bif wb then(bif wp then some ((TY hint)==(1:Int))else some false)else some false):Option (Bool)).bind λv12=>(bif v12 then bif bk a0.length d2.toList.length then(fE C q n d2.toList (a:Int) (b:Int)).bind λr6=>(bif r6.1 then((some r6.2).map λa=> .inr (.inr a)).map .inr else some (.inl r6.2))else none else some (.inl d2.toList)))=(some (if pi.2 then .inr (.inr (.inr pi.1.toList))else .inl pi.1.toList):Option (List α⊕((Int×Int×Int×Bool×Bool×(List α))⊕(Unit⊕(List α))))):=by
  rw[ei];have hh:((TY hint)==(1:Int))=decide (hint= .increasing):=by cases hint<;>rfl
  have g:=DF hC hq (d:=d2) (a:=a) (b:=b) (n:=n) (by omega) (by omega) (by omega) (by omega) (by omega);cases wb with
  |false=>rfl
  |true=>
   cases wp with
   |false=>rfl
   |true=>
    simp only[aj,ah,hh,Bool.true_and];cases decide (hint= .increasing)with
    |false=>rfl
    |true=>
     rw[XQ (by rw[h0,<- s2];simp),g.1];simp only[aj,ah,if_true];cases (partialInsertionSort lt d2 a b).2<;>rfl
 have hel:bk d1.toList.length a0.length=true:=XQ (by rw[h0,<- s1];simp);simp only[tO,E1,c12,ak,cl,ch1,ah,hsub,hel,aj,ch2,ch3];rw[ch4];cases pi.2 with
 |true=>rfl
 |false=>simp only[DS,E1,Bool.false_eq_true,if_false,dP]
theorem akX(hC:∀x y,C x y=some (f x y))(hq:∀x y,q (f x y)=lt x y){n:Nat}{rc:((List α))->(Int)->(Int)->(Int)->Option (List α)}{a0:List α}{d3 d4:Array α}{a b limit' pivot mid:Nat}{wb wp:Bool}
 (h0:a0.length=d3.size) (hb:b<=d3.size) (hs:d3.size<1152921504606846976) (hn:d3.size<n) (hp1:a<=pivot) (hp2:pivot<b) (hc:(decide (a>0)&&!lt d3[a -1]! d3[pivot]!)=true) (hx:partitionEqual lt d3 a b pivot=(mid,d4)):
 DS C q n rc a0 (a:Int) (b:Int) (limit':Int) wb wp (pivot:Int) d3.toList=some (.inl ((mid:Int),(b:Int),(limit':Int),wb,wp,d4.toList)):=by
 rw[aJ,aT]at hc;have c0:decide ((a:Int)>0)=true:=by simp;omega
 have ga:a -1<d3.size:=by omega
 have gp:pivot<d3.size:=by omega
 have g:=(NC hC hq (n:=n) hp1 hp2 hb hs hn).1;rw[hx]at g;have hc2:=hc.2;simp only[DS,c0,aj,w1 (show 0<a by omega) (show a<=9223372036854775807 by omega),kX (show a -1<a0.length by omega),fQ ga,ah,kX (show pivot<a0.length by omega),fQ gp,hC,hq,hc2,g];rw[XQ (by simpa using h0)];rfl
theorem XV(hC:∀x y,C x y=some (f x y))(hq:∀x y,q (f x y)=lt x y){n:Nat}{rc:((List α))->(Int)->(Int)->(Int)->Option (List α)}{a0:List α}{d3 d4:Array α}{a b limit' pivot mid:Nat}{wb wp ap:Bool}
 (h0:a0.length=d3.size) (hb:b<=d3.size) (hs:d3.size<1152921504606846976) (hn:d3.size<n) (hp1:a<=pivot) (hp2:pivot<b) (hc:(decide (a>0)&&!lt d3[a -1]! d3[pivot]!)=false) (hx:partition lt d3 a b pivot=(mid,ap,d4)) (hm1:a<=mid) (hm2:mid<b):
 DS C q n rc a0 (a:Int) (b:Int) (limit':Int) wb wp (pivot:Int) d3.toList=
  if mid -a<b -mid then(rc d4.toList (a:Int) (mid:Int) (limit':Int)).bind λr=>some (.inl (((mid+1:Nat):Int),(b:Int),(limit':Int),decide (mid -a>=(b -a)/8),ap,r))
  else(rc d4.toList ((mid+1:Nat):Int) (b:Int) (limit':Int)).bind λr=>some (.inl ((a:Int),(mid:Int),(limit':Int),decide (b -mid>=(b -a)/8),ap,r)):=by
 have gp:pivot<d3.size:=by omega
 have ip:((bif (decide ((a:Int)>(0:Int)))then bif b9 (i64.wrap ((a:Int) -1)) a0.length then(bo d3.toList ((0:Nat)+(i64.wrap ((a:Int) -1)):Int)).bind λx1=>bif b9 (pivot:Int) a0.length then(bo d3.toList ((0:Nat)+(pivot:Int):Int)).bind λx2=>(C x1 x2).bind λr7=>some (!(q r7))else none else none else some false):Option (Bool))=some false:=by
  by_cases ha:a>0
  ·have c0:decide ((a:Int)>0)=true:=(by simp;omega);have ga:a -1<d3.size:=(by omega);have hc2:(!lt d3[a -1]! d3[pivot]!)=false:=(by simpa[ha]using hc);simp only[c0,aj,w1 (show 0<a by omega) (show a<=9223372036854775807 by omega),kX (show a -1<a0.length by omega),fQ ga,ah,kX (show pivot<a0.length by omega),fQ gp,hC,hq,hc2]
  ·have c0:decide ((a:Int)>0)=false:=(by simp;omega);simp only[c0,ak]
 have g:=ZR hC hq (n:=n) hp1 hp2 hb hs hn;rw[hx]at g;obtain⟨g,gz⟩:=g;simp only[]at g gz;have E1:i64.wrap ((b:Int) -(a:Int))=((b -a:Nat):Int):=Kr (by omega) (by omega);have E2:i64.wrap ((mid:Int) -(a:Int))=((mid -a:Nat):Int):=Kr (by omega) (by omega);have E3:i64.wrap ((b:Int) -(mid:Int))=((b -mid:Nat):Int):=Kr (by omega) (by omega);have E4:i64.wrap (Int.tdiv ((b -a:Nat):Int) 8)=(((b -a)/8:Nat):Int):=by rw[show (8:Int)=((8:Nat):Int)from rfl,Pj,pQ (by omega)]
 have E5:i64.wrap ((mid:Int)+1)=((mid+1:Nat):Int):=aR (by omega);have D1:decide (((mid -a:Nat):Int)>=(((b -a)/8:Nat):Int))=decide (mid -a>=(b -a)/8):=by rw[decide_eq_decide];omega
 have D2:decide (((b -mid:Nat):Int)>=(((b -a)/8:Nat):Int))=decide (b -mid>=(b -a)/8):=by rw[decide_eq_decide];omega
 have L1:bk a0.length d3.toList.length=true:=XQ (by simpa using h0);have L2:bk a0.length d4.toList.length=true:=XQ (by rw[h0,<- gz];simp);have eight:(8 !=0)=true:=rfl;unfold DS;rw[ip];simp only[ah,ak,L1,aj,g,eight,E1,E2,E3,E4,E5,D1,D2,L2];by_cases hlt:mid -a<b -mid
 ·have c:decide (((mid -a:Nat):Int)<((b -mid:Nat):Int))=true:=by simp;omega
  rw[c,aP hlt];rfl
 ·have c:decide (((mid -a:Nat):Int)<((b -mid:Nat):Int))=false:=by simp;omega
  rw[c,aO hlt];rfl
theorem ajn(hS:SWO lt)(hC:∀x y,C x y=some (f x y))(hq:∀x y,q (f x y)=lt x y)(hnp:D3 ju)(hx:XT lv){n:Nat}{rc:((List α))->(Int)->(Int)->(Int)->Option (List α)}{a0:List α}(hs:a0.length<1152921504606846976)(hn:a0.length<n)(M:Nat)
 (hrc:∀(d':Array α)(a' b' l':Nat),d'.size=a0.length->a'<=b'->b'<=d'.size->Below lt a' b' d'->b' -a'<M->l'<1152921504606846976->rc d'.toList (a':Int) (b':Int) (l':Int)=some (pdq lt d' a' b' l' true true).toList)
 (d:Array α) (a b limit:Nat) (wb wp:Bool):a<=b->b<=d.size->d.size=a0.length->Below lt a b d->b -a<=M->limit<1152921504606846976->∀k,b -a<k->
 iter (tO C q ju lv n rc a0) k ((a:Int),(b:Int),(limit:Int),wb,wp,d.toList)=some (.inr (pdq lt d a b limit wb wp).toList):=by
 fun_induction pdq lt d a b limit wb wp
 case case1 d a b limit wb wp h12=>
  intro hab hb h0 hB hM hlm k hk;obtain⟨k,rfl⟩:∃m,k=m+1:=⟨k -1,by omega⟩;have E1:i64.wrap ((b:Int) -(a:Int))=((b -a:Nat):Int):=Kr (by omega) (by omega);have c12:decide (((b -a:Nat):Int)<=12)=true:=by simp;omega
  refine bJ ?_;simp only[tO,E1,c12,aj,Pg hC hq (show d.size<4611686018427387904 by omega) hb hab (show d.size<n by omega),ah,Option.map_some];rw[XQ (by rw[<- h0];simp)];rfl
 case case2 d a b wb wp h12=>
  intro hab hb h0 hB hM hlm k hk;obtain⟨k,rfl⟩:∃m,k=m+1:=⟨k -1,by omega⟩;have E1:i64.wrap ((b:Int) -(a:Int))=((b -a:Nat):Int):=Kr (by omega) (by omega);have c12:decide (((b -a:Nat):Int)<=12)=false:=by simp;omega
  refine bJ ?_;have z:(((0:Nat):Int)==0)=true:=rfl;simp only[tO,E1,c12,ak,z,aj,acC hC hq (show d.size<1152921504606846976 by omega) hb (show a<b by omega) (show d.size<n by omega),ah,Option.map_some];rw[XQ (by rw[<- h0];simp)];rfl
 case case3 d a b limit wb wp h12 hl d1 c d2 hint pi hpi2=>
  intro hab hb h0 hB hM hlm k hk;obtain⟨k,rfl⟩:∃m,k=m+1:=⟨k -1,by omega⟩;have pre:=LM hC hq hnp hx (n:=n) (rc:=rc) (a0:=a0) (d:=d) (d1:=d1) (d2:=d2) (a:=a) (b:=b) (limit:=limit) (wb:=wb) (wp:=wp) (c:=c) (hint:=hint) (pi:=pi) h0.symm hb (by omega) (by omega) h12 hl hlm rfl rfl rfl rfl rfl rfl rfl;refine bJ ?_;rw[pre,aP hpi2]
 case case4 d a b limit0 wb wp h12 hl d1 limit c d2 pivot hint pi hpi2 d3 hc mid d4 hx4 hg ih1=>
  intro hab hb h0 hB hM hlm k hk;obtain⟨k,rfl⟩:∃m,k=m+1:=⟨k -1,by omega⟩;have s1:PermIn a b d d1:=step_break d hab hb _;have b1:b<=d1.size:=by rw[s1.1];exact hb
  have s2:PermIn a b d1 d2:=step_reverse reverseRange_holds d1 hab b1 _;have b2:b<=d2.size:=by rw[s2.1];exact b1
  have B2:Below lt a b d2:=(hB.perm hb s1).perm b1 s2;have s3:=step_partial partialInsertionSort_holds hS d2 (a:=a) (b:=b) (by omega) b2 B2 ((wb&&wp&&decide (hint=Hint.increasing))=true);have s3':PermIn a b d2 d3:=s3.1;have b3:b<=d3.size:=by rw[s3'.1];exact b2
  have B3:Below lt a b d3:=B2.perm b2 s3';have P3:PermIn a b d d3:=permIn_trans _ _ _ a b (permIn_trans _ _ _ a b s1 s2) s3';have hc0:=choosePivot_holds lt d1 a b (by omega);have hpv:a<=pivot/\pivot<b:=pivot_range hc0.1 hc0.2 _;have hc':=hc;simp only[aJ,aT,Bool.not_eq_true']at hc';obtain⟨hm1,hm2,hs4,hB4,hfin⟩:=round_eq hS (partitionEqual_holds lt) hc'.1 hpv.1 hpv.2 b3 B3 hc'.2 hx4;have pre:=LM hC hq hnp hx (n:=n) (rc:=rc) (a0:=a0) (d:=d) (d1:=d1) (d2:=d2) (a:=a) (b:=b) (limit:=limit0) (limit':=limit) (pivot:=pivot) (wb:=wb) (wp:=wp) (c:=c) (hint:=hint) (pi:=pi) h0.symm hb (by omega) (by omega) h12 hl hlm rfl rfl rfl rfl rfl rfl rfl;have z3:d3.size=a0.length:=by rw[P3.1];exact h0
  rw[aO hpi2,akX hC hq (a0:=a0) (d3:=d3) (d4:=d4) (mid:=mid) z3.symm b3 (by omega) (by omega) hpv.1 hpv.2 hc hx4]at pre;rw[dx pre];have ll:limit<1152921504606846976:=by
   have:limit<=limit0:=(by show(dite _ _ _)<=_;split<;>omega);omega
  exact ih1 hm2 (by rw[hs4];exact b3) (by rw[hs4];exact z3) hB4 (by omega) ll k (by omega)
 case case5 d a b limit wb wp h12 hl d1 c d2 pivot hint pi hpi2 d3 hc mid d4 hx4 hg=>
  intro hab hb h0 hB hM hlm k hk;have s1:PermIn a b d d1:=step_break d hab hb _;have b1:b<=d1.size:=by rw[s1.1];exact hb
  have s2:PermIn a b d1 d2:=step_reverse reverseRange_holds d1 hab b1 _;have b2:b<=d2.size:=by rw[s2.1];exact b1
  have B2:Below lt a b d2:=(hB.perm hb s1).perm b1 s2;have s3:=step_partial partialInsertionSort_holds hS d2 (a:=a) (b:=b) (by omega) b2 B2 ((wb&&wp&&decide (hint=Hint.increasing))=true);have s3':PermIn a b d2 d3:=s3.1;have b3:b<=d3.size:=by rw[s3'.1];exact b2
  have B3:Below lt a b d3:=B2.perm b2 s3';have hc0:=choosePivot_holds lt d1 a b (by omega);have hpv:a<=pivot/\pivot<b:=pivot_range hc0.1 hc0.2 _;simp only[aJ,aT,Bool.not_eq_true']at hc;obtain⟨g1,g2,_⟩:=round_eq hS (partitionEqual_holds lt) hc.1 hpv.1 hpv.2 b3 B3 hc.2 hx4;exact absurd ⟨g1,g2⟩ hg
 case case6 d a b limit0 wb wp h12 hl d1 limit c d2 pivot hint pi hpi2 d3 hc mid ap d4 hx4 hg hlt ih3 ih2 ih1=>
  intro hab hb h0 hB hM hlm k hk;obtain⟨k,rfl⟩:∃m,k=m+1:=⟨k -1,by omega⟩;have s1:PermIn a b d d1:=step_break d hab hb _;have b1:b<=d1.size:=by rw[s1.1];exact hb
  have s2:PermIn a b d1 d2:=step_reverse reverseRange_holds d1 hab b1 _;have b2:b<=d2.size:=by rw[s2.1];exact b1
  have B2:Below lt a b d2:=(hB.perm hb s1).perm b1 s2;have s3:=step_partial partialInsertionSort_holds hS d2 (a:=a) (b:=b) (by omega) b2 B2 ((wb&&wp&&decide (hint=Hint.increasing))=true);have s3':PermIn a b d2 d3:=s3.1;have b3:b<=d3.size:=by rw[s3'.1];exact b2
  have B3:Below lt a b d3:=B2.perm b2 s3';have P3:PermIn a b d d3:=permIn_trans _ _ _ a b (permIn_trans _ _ _ a b s1 s2) s3';have hc0:=choosePivot_holds lt d1 a b (by omega);have hpv:a<=pivot/\pivot<b:=pivot_range hc0.1 hc0.2 _;obtain⟨g1,g2,hs4,hBa,hBr,hleft,_⟩:=round_part hS (partition_holds lt) hpv.1 hpv.2 b3 B3 hx4;have pre:=LM hC hq hnp hx (n:=n) (rc:=rc) (a0:=a0) (d:=d) (d1:=d1) (d2:=d2) (a:=a) (b:=b) (limit:=limit0) (limit':=limit) (pivot:=pivot) (wb:=wb) (wp:=wp) (c:=c) (hint:=hint) (pi:=pi) h0.symm hb (by omega) (by omega) h12 hl hlm rfl rfl rfl rfl rfl rfl rfl;have z3:d3.size=a0.length:=by rw[P3.1];exact h0
  have ll:limit<1152921504606846976:=by
   have:limit<=limit0:=(by show(dite _ _ _)<=_;split<;>omega);omega
  have y6:=hrc d4 a mid limit (by rw[hs4];exact z3) g1 (by rw[hs4];omega) hBa (by omega) ll;have vm:=pdq_sorts lt hS d4 a mid limit true true g1 (by rw[hs4];omega) hBa;obtain⟨hBL,_⟩:=hleft _ vm.1 vm.2;rw[aO hpi2,XV hC hq (a0:=a0) (d3:=d3) (d4:=d4) (mid:=mid) (ap:=ap) z3.symm b3 (by omega) (by omega) hpv.1 hpv.2 (by simpa using hc) hx4 g1 g2,aP hlt,y6,ah]at pre;rw[dx pre];exact ih1 (by omega) (by rw[vm.1.1,hs4];exact b3) (by rw[vm.1.1,hs4];exact z3) hBL (by omega) ll k (by omega)
 case case7 d a b limit0 wb wp h12 hl d1 limit c d2 pivot hint pi hpi2 d3 hc mid ap d4 hx4 hg hlt ih3 ih2 ih1=>
  intro hab hb h0 hB hM hlm k hk;obtain⟨k,rfl⟩:∃m,k=m+1:=⟨k -1,by omega⟩;have s1:PermIn a b d d1:=step_break d hab hb _;have b1:b<=d1.size:=by rw[s1.1];exact hb
  have s2:PermIn a b d1 d2:=step_reverse reverseRange_holds d1 hab b1 _;have b2:b<=d2.size:=by rw[s2.1];exact b1
  have B2:Below lt a b d2:=(hB.perm hb s1).perm b1 s2;have s3:=step_partial partialInsertionSort_holds hS d2 (a:=a) (b:=b) (by omega) b2 B2 ((wb&&wp&&decide (hint=Hint.increasing))=true);have s3':PermIn a b d2 d3:=s3.1;have b3:b<=d3.size:=by rw[s3'.1];exact b2
  have B3:Below lt a b d3:=B2.perm b2 s3';have P3:PermIn a b d d3:=permIn_trans _ _ _ a b (permIn_trans _ _ _ a b s1 s2) s3';have hc0:=choosePivot_holds lt d1 a b (by omega);have hpv:a<=pivot/\pivot<b:=pivot_range hc0.1 hc0.2 _;obtain⟨g1,g2,hs4,hBa,hBr,_,hright⟩:=round_part hS (partition_holds lt) hpv.1 hpv.2 b3 B3 hx4;have pre:=LM hC hq hnp hx (n:=n) (rc:=rc) (a0:=a0) (d:=d) (d1:=d1) (d2:=d2) (a:=a) (b:=b) (limit:=limit0) (limit':=limit) (pivot:=pivot) (wb:=wb) (wp:=wp) (c:=c) (hint:=hint) (pi:=pi) h0.symm hb (by omega) (by omega) h12 hl hlm rfl rfl rfl rfl rfl rfl rfl;have z3:d3.size=a0.length:=by rw[P3.1];exact h0
  have ll:limit<1152921504606846976:=by
   have:limit<=limit0:=(by show(dite _ _ _)<=_;split<;>omega);omega
  have y6:=hrc d4 (mid+1) b limit (by rw[hs4];exact z3) (by omega) (by rw[hs4];exact b3) hBr (by omega) ll;have vm:=pdq_sorts lt hS d4 (mid+1) b limit true true (by omega) (by rw[hs4];exact b3) hBr;obtain⟨hBL,_⟩:=hright _ vm.1 vm.2;rw[aO hpi2,XV hC hq (a0:=a0) (d3:=d3) (d4:=d4) (mid:=mid) (ap:=ap) z3.symm b3 (by omega) (by omega) hpv.1 hpv.2 (by simpa using hc) hx4 g1 g2,aO hlt,y6,ah]at pre;rw[dx pre];exact ih1 g1 (by rw[vm.1.1,hs4];omega) (by rw[vm.1.1,hs4];exact z3) hBL (by omega) ll k (by omega)
 case case8 d a b limit wb wp h12 hl d1 c d2 pivot hint pi hpi2 d3 hc mid ap d4 hx4 hg=>
  intro hab hb h0 hB hM hlm k hk;have s1:PermIn a b d d1:=step_break d hab hb _;have b1:b<=d1.size:=by rw[s1.1];exact hb
  have s2:PermIn a b d1 d2:=step_reverse reverseRange_holds d1 hab b1 _;have b2:b<=d2.size:=by rw[s2.1];exact b1
  have B2:Below lt a b d2:=(hB.perm hb s1).perm b1 s2;have s3:=step_partial partialInsertionSort_holds hS d2 (a:=a) (b:=b) (by omega) b2 B2 ((wb&&wp&&decide (hint=Hint.increasing))=true);have s3':PermIn a b d2 d3:=s3.1;have b3:b<=d3.size:=by rw[s3'.1];exact b2
  have B3:Below lt a b d3:=B2.perm b2 s3';have hc0:=choosePivot_holds lt d1 a b (by omega);have hpv:a<=pivot/\pivot<b:=pivot_range hc0.1 hc0.2 _;obtain⟨g1,g2,_⟩:=round_part hS (partition_holds lt) hpv.1 hpv.2 b3 B3 hx4;exact absurd ⟨g1,g2⟩ hg
theorem aex(hS:SWO lt)(hC:∀x y,C x y=some (f x y))(hq:∀x y,q (f x y)=lt x y)(hnp:D3 ju)(hx:XT lv){n:Nat}:∀(m:Nat)(d:Array α)(a b l:Nat),d.size<1152921504606846976->d.size<n->a<=b->b<=d.size->Below lt a b d->b -a<m->l<1152921504606846976->
 iX C q ju lv n m d.toList (a:Int) (b:Int) (l:Int)=some (pdq lt d a b l true true).toList
 | 0,d,a,b,l,hs,hn,hab,hb,hB,hm,hl=>by omega
 |m+1,d,a,b,l,hs,hn,hab,hb,hB,hm,hl=>by
  show kJ C q ju lv n (iX C q ju lv n m) d.toList (a:Int) (b:Int) (l:Int)=_;unfold kJ;have z:d.toList.length=d.size:=by simp
  rw[ajn hS hC hq hnp hx (a0:=d.toList) (by omega) (by omega) m (λ d' a' b' l' h1 h2 h3 h4 h5 h6=>aex hS hC hq hnp hx m d' a' b' l' (by omega) (by omega) h2 h3 h4 h5 h6) d a b l true true hab hb (by omega) hB (by omega) hl n (by omega)];rfl
def AJ(lt:α->α->Bool)(l:List α):List α:=(Go.Sort.sort lt l.toArray).toList
theorem AL(hS:SWO lt)(hC:∀x y,C x y=some (f x y))(hq:∀x y,q (f x y)=lt x y)(hnp:D3 ju)(hx:XT lv){n m:Nat}{l:List α}(hl:l.length<1152921504606846976)(hn:l.length<n)(hm:l.length<m):
 iX C q ju lv n m l 0 (l.length:Int) ((bitsLen l.length:Nat):Int)=some (AJ lt l):=by
 have hb:bitsLen l.length<1152921504606846976:=by
  have:=lt_two_pow_bitsLen l.length;have h2:bitsLen l.length<=60:=(bitsLen_le_iff _ _).2 (by omega);omega
 have:=aex hS hC hq hnp hx (n:=n) m l.toArray 0 l.length (bitsLen l.length) (by simpa using hl) (by simpa using hn) (by omega) (by simp) (.inl rfl) (by omega) hb;have e:((0:Nat):Int)=0:=rfl;rw[e]at this;rw[show l.toArray.toList=l from rfl]at this;rw[this];unfold AJ Go.Sort.sort;simp
theorem NE(hS:SWO lt)(l:List α):(AJ lt l).Perm l:=by
 obtain⟨h1,_⟩:=sort_sorts lt hS l.toArray;obtain⟨hs,_,hp⟩:=h1;unfold AJ;have e1:((Go.Sort.sort lt l.toArray).extract 0 l.toArray.size).toList=(Go.Sort.sort lt l.toArray).toList:=by rw[<- hs];simp
 have e2:(l.toArray.extract 0 l.toArray.size).toList=l:=by simp
 rw[e1,e2]at hp;exact hp
theorem Pn(hS:SWO lt)(l:List α):(AJ lt l).Pairwise λx y=>lt y x=false:=by
 obtain⟨h1,h2⟩:=sort_sorts lt hS l.toArray;have hs:=h1.1;unfold AJ;rw[List.pairwise_iff_getElem];intro i j hi hj hij;simp only[Array.length_toList]at hi hj;have:=h2 i j (Nat.zero_le _) hij (by omega);rw[getElem!_pos _ j hj,getElem!_pos _ i hi]at this;simpa using this
theorem Po(hS:SWO lt)(l:List α):(AJ lt l).length=l.length:=(NE hS l).length_eq
end
end Go.Gb
