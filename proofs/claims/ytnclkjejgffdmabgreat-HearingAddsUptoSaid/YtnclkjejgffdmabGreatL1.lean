import Derived.Test.YtnclkjejgffdmabGreatW3
import Derived.Sort.AssemblyPlain
open Go.IntKind (i64)
open List (length_take length_drop pairwise_cons)
namespace Go.Gb
abbrev ck{α:Type}(c:Bool)(x:Option α):Option α:=cond c x none
abbrev Stp(S O:Type):Type:=S->Option (S⊕O)
end Go.Gb
namespace Go.Gb
open Go.RowKit
theorem fL:((0:Nat):Int)=0:=rfl
theorem dw{x:Int}(h1: -9223372036854775808<=x:=by omega)(h2:x<=9223372036854775807:=by omega):i64.wrap x=x:=by rw[IntKind.wrap_i64];omega
theorem Oc{x:Nat}(h:x<=9223372036854775807):i64.wrap (x:Int)=(x:Int):=dw (by omega) (by omega)
theorem aL{i:Nat}(h:i<9223372036854775807):i64.wrap ((i:Int)+1)=((i+1:Nat):Int):=by rw[dw (by omega) (by omega)];omega
theorem bf(i:Nat)(h:i<9223372036854775807:=by omega):IntKind.i64.wrap ((i:Int)+1)=((i+1:Nat):Int):=aL h
theorem lF{i:Nat}(h0:0<i)(h:i<=9223372036854775807):i64.wrap ((i:Int) -1)=((i -1:Nat):Int):=by rw[dw (by omega) (by omega)];omega
section
variable {α β S V O W:Type}
@[simp] theorem ES (l:List α) (i:Nat):bj l (i:Int)=l[i]? :=by simp[bj]
theorem EU(l:List α)(i:Nat):bj l (((0:Nat):Int)+(i:Int))=l[i]? :=by simp
theorem aQ{l:List α}{i:Nat}(h:i<l.length):bj l (i:Int)=some l[i]:=by simp
theorem bK{l:List α}{i:Nat}(h:i<l.length):bj l (((0:Nat):Int)+(i:Int))=some l[i]:=by simp
theorem aju{l:List α}(h:0<l.length):bj l 0=some l[0]:=by have:=aQ h;simpa using this
@[simp] theorem arC (i n:Nat):cP (i:Int) n=decide (i<n):=by simp[cP]
theorem aZ{i n:Nat}(h:i<n):cP (i:Int) n=true:=by simp[h]
@[simp] theorem eu (a:α) (f:α->β):iH a f=f a:=rfl
@[simp] theorem aH (a:Nat):az a a=true:=by simp[az]
theorem QM{a b:Nat}(h:a=b):az a b=true:=by simp[h]
@[simp] theorem dO (l:List α):sub l 0 l.length=l:=by simp[sub]
theorem amJ(l:List α)(n:Nat):sub l 0 n=l.take n:=by simp[sub]
@[simp] theorem aqH (n b:Nat):bJ 0 0 n n b=(decide (n*b<=140737488355328)&&decide (n<=maxLen)):=by simp[bJ]
theorem bX{a n b:Nat}(h1:(a+n)*b<=140737488355328:=by omega)(h2:a+n<=maxLen:=by simp only[maxLen];omega):bJ a a n n b=true:=by simp[bJ,h1,h2]
theorem vT{l h:Int}{n:Nat}(h1:0<=l)(h2:l<=h)(h3:h<=(n:Int)):y9 l h n=true:=by simp[y9,h1,h2,h3]
@[simp] theorem iC (w:W) (f:W->Option α):dJ (some (Sum.inl w:W⊕α)) f=f w:=rfl
@[simp] theorem tq (a:α) (f:W->Option α):dJ (some (Sum.inr a:W⊕α)) f=some a:=rfl
theorem Kh(step:V->Option (V⊕O))(n:Nat)(v:V):iter step (n+1) v=(step v).bind λr=>match r with
 | .inl v=>iter step n v
 | .inr o=>some o:=rfl
theorem jL{step:V->Option (V⊕O)}{n:Nat}{v v':V}(h:step v=some (.inl v')):iter step (n+1) v=iter step n v':=by rw[Kh,h];rfl
theorem fI{step:V->Option (V⊕O)}{n:Nat}{v:V}{o:O}(h:step v=some (.inr o)):iter step (n+1) v=some o:=by rw[Kh,h];rfl
theorem iJ{step:V->Option (V⊕O)}(g:Nat->V)(N:Nat)(o:O)(h:∀i,i<N->step (g i)=some (.inl (g (i+1))))(hN:step (g N)=some (.inr o)):
 ∀n,N<n->iter step n (g 0)=some o:=by
 have main:∀k i n,i+k=N->k<n->iter step n (g i)=some o:=by
  intro k
  induction k with
  |zero=>
   intro i n hi hn;obtain⟨m,rfl⟩:∃m,n=m+1:=⟨n -1,by omega⟩;have:i=N:=(by omega);subst this;exact fI hN
  |succ k ih=>
   intro i n hi hn;obtain⟨m,rfl⟩:∃m,n=m+1:=⟨n -1,by omega⟩;rw[jL (h i (by omega))];exact ih (i+1) m (by omega) (by omega)
 intro n hn;exact main N 0 n (by omega) hn
def Od(f:α->S->S⊕O)(fin:S->O):List α->S->O
 |[],s=>fin s
 |x::xs,s=>match f x s with
  | .inl s'=>Od f fin xs s'
  | .inr o=>o
theorem Xz{l:List α}{step:V->Option (V⊕O)}(enc:Nat->S->V)(f:α->S->S⊕O)(fin:S->O)(Inv:Nat->S->Prop)
 (h:∀i (hi:i<l.length) s,Inv i s->step (enc i s)=some (match f l[i] s with | .inl s'=> .inl (enc (i+1) s') | .inr o=> .inr o)/\∀s',f l[i] s= .inl s'->Inv (i+1) s')
 (hend:∀s,Inv l.length s->step (enc l.length s)=some (.inr (fin s))):∀n,l.length<n->∀s,Inv 0 s->iter step n (enc 0 s)=some (Od f fin l s):=by
 have main:∀k i n,i+k=l.length->k<n->∀s,Inv i s->iter step n (enc i s)=some (Od f fin (l.drop i) s):=by
  intro k
  induction k with
  |zero=>
   intro i n hi hn s hs;obtain⟨m,rfl⟩:∃m,n=m+1:=⟨n -1,by omega⟩;have:i=l.length:=(by omega);subst this;rw[fI (hend s hs)];simp[Od]
  |succ k ih=>
   intro i n hi hn s hs;obtain⟨m,rfl⟩:∃m,n=m+1:=⟨n -1,by omega⟩;have hil:i<l.length:=(by omega);have⟨h1,h2⟩:=h i hil s hs;rw[List.drop_eq_getElem_cons hil];simp[Od];cases hf:f l[i] s with
   |inl s'=>
    rw[hf]at h1;rw[jL h1];exact ih (i+1) m (by omega) (by omega) s' (h2 s' hf)
   |inr o=>
    rw[hf]at h1;rw[fI h1]
 intro n hn s hs;have:=main l.length 0 n (by omega) hn s hs;simpa using this
theorem abF{l:List α}{step:V->Option (V⊕O)}(enc:Nat->S->V)(f:α->S->S⊕O)(fin:S->O)
 (h:∀i (hi:i<l.length) s,step (enc i s)=some (match f l[i] s with | .inl s'=> .inl (enc (i+1) s') | .inr o=> .inr o))
 (hend:∀s,step (enc l.length s)=some (.inr (fin s))):∀n,l.length<n->∀s,iter step n (enc 0 s)=some (Od f fin l s):=λn hn s=>
 Xz enc f fin (λ _ _=>True) (λ i hi s _=>⟨h i hi s,λ_ _=>trivial⟩) (λ s _=>hend s) n hn s trivial
theorem XA(g:α->S->S)(fin:S->O):∀(l:List α)(s:S),Od (λ x s=> .inl (g x s)) fin l s=fin (l.foldl (λ s x=>g x s) s)
 |[],_=>rfl
 |x::xs,s=>by exact XA g fin xs _
theorem dN{l:List α}{step:V->Option (V⊕O)}(enc:Nat->S->V)(g:α->S->S)(fin:S->O)(Inv:Nat->S->Prop)
 (h:∀i (hi:i<l.length) s,Inv i s->step (enc i s)=some (.inl (enc (i+1) (g l[i] s)))/\Inv (i+1) (g l[i] s))
 (hend:∀s,Inv l.length s->step (enc l.length s)=some (.inr (fin s))) (n:Nat) (hn:l.length<n) (s:S) (hs:Inv 0 s):iter step n (enc 0 s)=some (fin (l.foldl (λ s x=>g x s) s)):=by rw[Xz enc (λ x s=> .inl (g x s)) fin Inv (λ i hi s hs=>⟨(h i hi s hs).1,λs' hs'=>by injection hs' with hs';subst hs';exact(h i hi s hs).2⟩) hend n hn s hs,XA]
theorem gq{l:List α}{step:V->Option (V⊕O)}(enc:Nat->S->V)(g:α->S->S)(fin:S->O)
 (h:∀i (hi:i<l.length) s,step (enc i s)=some (.inl (enc (i+1) (g l[i] s))))
 (hend:∀s,step (enc l.length s)=some (.inr (fin s))) (n:Nat) (hn:l.length<n) (s:S):iter step n (enc 0 s)=some (fin (l.foldl (λ s x=>g x s) s)):=
 dN enc g fin (λ _ _=>True) (λ i hi s _=>⟨h i hi s,trivial⟩) (λ s _=>hend s) n hn s trivial
def nE(p:α->Bool):List α->Option Nat
 |[]=>none
 |x::xs=>bif p x then some 0 else(nE p xs).map (· +1)
theorem EW(p:α->Bool):∀(l:List α),(∃ (i:Nat) (h:i<l.length),nE p l=some i/\p l[i]=true/\∀j (hj:j<i),p (l[j]'(by omega))=false)\/(nE p l=none/\∀x∈l,p x=false)
 |[]=> .inr ⟨rfl,by simp⟩
 |x::xs=>by
  cases hx:p x with
  |true=>exact .inl ⟨0,by simp,by simp[nE,hx],by simpa using hx,λj hj=>by omega⟩
  |false=>
   rcases EW p xs with ⟨i,h,h1,h2,h3⟩ |⟨h1,h2⟩;refine .inl ⟨i+1,by simpa using h,by simp[nE,hx,h1],by simpa using h2,λj hj=>?_⟩;cases j with
   |zero=>simpa using hx
   |succ j=>simpa using h3 j (by omega)
   exact .inr ⟨by simp[nE,hx,h1],by simpa[hx]using h2⟩
theorem kz{l:List α}{step:V->Option (V⊕(W⊕O))}(enc:Nat->V)(p:α->Bool)(w:W)(out:Nat->O)
 (h:∀i (hi:i<l.length),step (enc i)=some (bif p l[i]then .inr (.inr (out i))else .inl (enc (i+1))))
 (hend:step (enc l.length)=some (.inr (.inl w))) (n:Nat) (hn:l.length<n):iter step n (enc 0)=some (match nE p l with |some i=> .inr (out i) |none=> .inl w):=by rcases EW p l with ⟨i,hi,h1,h2,h3⟩ |⟨h1,h2⟩;rw[h1];refine iJ enc i _ (λ j hj=>?_) ?_ n (by omega);rw[h j (by omega),h3 j hj];rfl;rw[h i hi,h2];rfl;rw[h1];refine iJ enc l.length _ (λ j hj=>?_) hend n hn;rw[h j hj,h2 _ (List.getElem_mem hj)];rfl
theorem jP(p:α->Bool)(l:List α):(nE p l).isSome=l.any p:=by
 induction l with
 |nil=>rfl
 |cons x xs ih=>
  simp[nE];cases p x with
  |true=>rfl
  |false=>simp[ih]
end
section
variable {α:Type}
def nN(lt:α->α->Bool)(x:α):List α->List α
 |[]=>[x]
 |y::ys=>bif lt x y then y::nN lt x ys else x::y::ys
def kr(lt:α->α->Bool)(l:List α):List α:=(l.foldl (λ rs x=>nN lt x rs) []).reverse
variable {lt:α->α->Bool} {less:α->α->Option Bool}
theorem LM(x:α):∀ys:List α,(nN lt x ys).length=ys.length+1
 |[]=>rfl
 |y::ys=>by simp[nN];cases lt x y<;>simp[LM x ys]
theorem Mr(x z:α):∀ys:List α,z∈nN lt x ys↔z=x\/z∈ys
 |[]=>by simp[nN]
 |y::ys=>by
  simp[nN];cases lt x y with
  |true=>simp[Mr x z ys];exact⟨λ h=>by rcases h with h |h |h<;>simp[h],λh=>by rcases h with h |h |h<;>simp[h]⟩
  |false=>simp
theorem akP(z:α)(l:List α):z∈kr lt l↔z∈l:=by
 unfold kr;have:∀(l rs:List α),z∈l.foldl (λ rs x=>nN lt x rs) rs↔z∈l\/z∈rs:=by
  intro l
  induction l with
  |nil=>simp
  |cons x l ih=>intro rs;simp[ih,Mr];exact⟨λ h=>by rcases h with h |h |h<;>simp[h],λh=>by rcases h with (h |h) |h<;>simp[h]⟩
 simpa using this l []
theorem bZ(l:List α):(kr lt l).length=l.length:=by
 unfold kr;have:∀(l rs:List α),(l.foldl (λ rs x=>nN lt x rs) rs).length=l.length+rs.length:=by
  intro l
  induction l with
  |nil=>simp
  |cons x l ih=>simp[ih,LM];omega
 simpa using this l []
end
theorem LP(x:Int):∀ys:List Int,ys.Pairwise (· >= ·)->(nN (λ a b=>decide (a<b)) x ys).Pairwise (· >= ·)
 |[],_=>by simp[nN]
 |y::ys,h=>by simp[nN];rw[pairwise_cons]at h;by_cases hxy:x<y;simp[hxy];refine⟨λ z hz=>?_,LP x ys h.2⟩;rcases (Mr x z ys).1 hz with rfl |hz;exact Int.le_of_lt hxy;exact h.1 z hz;simp only[hxy,decide_false,au,pairwise_cons,aI];refine⟨λ z hz=>?_,h⟩;rcases hz with rfl |hz;omega;have:=h.1 z hz;omega
theorem ac3(l:List Int):(kr (λ a b=>decide (a<b)) l).Pairwise (· <= ·):=by
 rw[kr,List.pairwise_reverse];have:∀(l rs:List Int),rs.Pairwise (· >= ·)->(l.foldl (λ rs x=>nN (λ a b=>decide (a<b)) x rs) rs).Pairwise (· >= ·):=by
  intro l
  induction l with
  |nil=>intro rs h;exact h
  |cons x l ih=>intro rs h;exact ih _ (LP x rs h)
 exact this l [] List.Pairwise.nil
def iM:List Int->List Int
 |[]=>[]
 |[x]=>[x]
 |x::y::l=>bif x==y then iM (y::l)else x::iM (y::l)
theorem yj:∀(l:List Int)(z:Int),z∈iM l↔z∈l
 |[],_ |[x],_=>by simp[iM]
 |x::y::l,z=>by
  simp[iM];by_cases h:x=y;subst h;simp[yj (x::l) z];have:(x==y)=false:=by simp[h]
  simp[this,yj (y::l) z]
theorem xP:∀(l:List Int),l.Pairwise (· <= ·)->(iM l).Pairwise (· < ·)
 |[],_=>List.Pairwise.nil
 |[x],_=>by simp[iM]
 |x::y::l,h=>by
  rw[pairwise_cons]at h;simp[iM];by_cases e:x=y;subst e;simp;exact xP (x::l) h.2;have hb:(x==y)=false:=by simp[e]
  simp[hb];refine⟨λ z hz=>?_,xP (y::l) h.2⟩;rw[yj]at hz;have h1:=h.1 y (by simp);rcases aI.1 hz with rfl |hz;omega;have:=(pairwise_cons.1 h.2).1 z hz;omega
def ZU(l:List Int):List Int:=iM (kr (λ a b=>decide (a<b)) l)
theorem amK(l:List Int)(z:Int):z∈ZU l↔z∈l:=by rw[ZU,yj,akP]
theorem afb(l:List Int):(ZU l).Pairwise (· < ·):=xP _ (ac3 l)
section
variable {α:Type}
def Sx(l:List α)(φ:(α×Unit)->Option Bool):Int->Option (Int⊕(Unit⊕Int))
 |v1=>(bif (decide (v1<((l.length:Int):Int)))then(bj l v1).bind λx1=>(φ (x1,())).bind λr1=>(bif r1 then(some v1).map λa=> .inr (.inr a)else some (.inl (i64.wrap (v1+1))))else some (.inr (.inl ())))
def xq(n:Nat)(l:List α)(φ:(α×Unit)->Option Bool):Option Int:=
 dJ (iter (Sx l φ) n (0:Int)) λ()=>some ((-1):Int)
def yu(p:α->Bool)(l:List α):Int:=match nE p l with |some i=>(i:Int) |none=> -1
theorem Gi{n:Nat}{l:List α}{φ:(α×Unit)->Option Bool}(p:α->Bool)(h:∀x∈l,φ (x,())=some (p x))(hl:l.length<=9223372036854775807)(hn:l.length<n):xq n l φ=some (yu p l):=by
 unfold xq;have:=kz (l:=l) (step:=Sx l φ) (λ i=>(i:Int)) p () (λ i=>(i:Int)) (λ i hi=>?_) ?_ n hn;rw[show ((0:Nat):Int)=0 from rfl]at this;rw[this];unfold yu;cases nE p l<;>rfl;have hi':decide ((i:Int)<(l.length:Int))=true:=by simpa using hi
 simp only[Sx,hi',aj,aQ hi,ai,h _ (List.getElem_mem hi)];cases p l[i]with
 |true=>rfl
 |false=>simp only[au];rw[aL (by omega)]
 simp[Sx]
theorem fK{n:Nat}{l:List α}{φ:(α×Unit)->Option Bool}(p:α->Bool)(h:∀x∈l,φ (x,())=some (p x))(hl:l.length<1099511627776)(hn:l.length<n):xq n l φ=some (yu p l):=Gi p h (by omega) hn
theorem rY(p:α->Bool)(l:List α):decide (yu p l>=0)=l.any p:=by rw[yu,<- jP];cases nE p l<;>simp
theorem afc{p:α->Bool}{l:List α}(h:l.any p=true):∃(i:Nat)(hi:i<l.length),yu p l=(i:Int)/\l.find? p=some l[i]:=by rcases EW p l with ⟨i,hi,h1,h2,h3⟩ |⟨h1,h2⟩;refine⟨i,hi,by simp[yu,h1],?_⟩;rw[List.find?_eq_some_iff_getElem];exact⟨h2,i,hi,rfl,λj hj=>by simpa using h3 j hj⟩;rw[List.any_eq_true]at h;obtain⟨x,hx,hp⟩:=h;rw[h2 x hx]at hp;cases hp
def RW(eq:α->Bool)(l:List α):Int->Option (Int⊕(Unit⊕Int))
 |v1=>(bif (decide (v1<((l.length:Int):Int)))then(bj l v1).bind λx1=>(bif eq x1 then(some v1).map λa=> .inr (.inr a)else some (.inl (i64.wrap (v1+1))))else some (.inr (.inl ())))
def ac4(n:Nat)(eq:α->Bool)(l:List α):Option Int:=
 dJ (iter (RW eq l) n (0:Int)) λ()=>some ((-1):Int)
theorem IW{n:Nat}{l:List α}{eq:α->Bool}(hl:l.length<1099511627776)(hn:l.length<n):ac4 n eq l=some (yu eq l):=by
 unfold ac4;have:=kz (l:=l) (step:=RW eq l) (λ i=>(i:Int)) eq () (λ i=>(i:Int)) (λ i hi=>?_) ?_ n hn;rw[show ((0:Nat):Int)=0 from rfl]at this;rw[this];unfold yu;cases nE eq l<;>rfl;have hi':decide ((i:Int)<(l.length:Int))=true:=by simpa using hi
 simp only[RW,hi',aj,aQ hi,ai];cases eq l[i]with
 |true=>rfl
 |false=>simp only[au];rw[aL (by omega)]
 simp[RW]
noncomputable def ajw(b:Nat)(a0:List α):Option (List α):=
 (bif a0.isEmpty then(both (some ([]:(List α))) (bif bJ ([]:List α).length 0 a0.length a0.length b then iH (([]:List α)++a0) λr1=>bif az (sub r1 0 r1.length).length r1.length then some (sub r1 0 r1.length)else none else none))else bif bJ ([]:List α).length 0 a0.length a0.length b then iH (([]:List α)++a0) λr2=>bif az (sub r2 0 r2.length).length r2.length then some (sub r2 0 r2.length)else none else none)
theorem AP{l:List α}{b:Nat}(h:l.length*b<=140737488355328)(h2:l.length<=maxLen):ajw b l=some l:=by
 have:bJ ([]:List α).length 0 l.length l.length b=true:=bX (a:=0) (by simpa using h) (by simpa using h2);unfold ajw;cases l with
 |nil=>simp;exact akI _
 |cons x l=>simp only[this,aj,eu,fH,dO,aH,List.isEmpty_cons,au]
def ahP(z:α)(b:Nat)(a1:Int):Option (List α):=
 (bif (decide (a1<(0:Int)))then none else(bif (decide ((i64.wrap (a1 -(i64.wrap (0 -0))))>(0:Int)))then bif qH (i64.wrap (a1 -(i64.wrap (0 -0)))) b then bif y9 0 0 ((i64.wrap (a1 -(i64.wrap (0 -0)))).toNat)then bif az (sub (List.replicate (i64.wrap (a1 -(i64.wrap (0 -0)))).toNat z) 0 0).length 0 then some (sub (List.replicate (i64.wrap (a1 -(i64.wrap (0 -0)))).toNat z) 0 0)else none else none else none else some ([]:(List α))))
theorem ahQ(z:α){b n:Nat}(h:n*b<=140737488355328)(hn:n<1099511627776):ahP z b (n:Int)=some []:=by
 have w0:i64.wrap (0 -0)=0:=by decide
 have w1:i64.wrap ((n:Int) -0)=(n:Int):=by rw[Int.sub_zero];exact Oc (by omega)
 have d:decide ((n:Int)<0)=false:=by simp
 have m:qH (n:Int) b=true:=by
  have h9:n<=maxLen:=by simp[maxLen];omega
  simp[qH,h,h9]
 have s:y9 0 0 (n:Int).toNat=true:=vT (by omega) (by omega) (by omega);have e:sub (List.replicate (n:Int).toNat z) 0 0=[]:=by simp[sub]
 simp only[ahP,w0,w1,d,au,m,aj,s,e];cases decide ((n:Int)>0)<;>rfl
def T5(a0:List (List α)):(Int×Int)->Option ((Int×Int)⊕Int)
 |(v1,v2)=>(bif (decide (v2<((a0.length:Int):Int)))then(bj a0 v2).bind λx1=>(bif (decide ((i64.wrap (v1+(x1.length:Int)))<(0:Int)))then none else some (.inl ((i64.wrap (v1+(x1.length:Int))),(i64.wrap (v2+1)))))else some (.inr v1))
def T4(b:Nat)(a0:List (List α)):(Int×List α)->Option ((Int×List α)⊕List α)
 |(v3,v4)=>(bif (decide (v3<((a0.length:Int):Int)))then(bj a0 v3).bind λx2=>bif bJ v4.length v4.length x2.length x2.length b then iH (v4++x2) λr2=>bif az r2.length r2.length then some (.inl ((i64.wrap (v3+1)),r2))else none else none else bif az v4.length v4.length then some (.inr v4)else none)
def afd(z:α)(b:Nat)(n:Nat)(a0:List (List α)):Option (List α):=
 (iter (T5 a0) n ((0:Int),(0:Int))).bind λw1=>(ahP z b w1).bind λr1=>bif az r1.length r1.length then(iter (T4 b a0) n ((0:Int),r1)).bind λw2=>bif az (sub w2 0 w2.length).length w2.length then some (sub w2 0 w2.length)else none else none
theorem Oe(z:α){b n:Nat}{a0:List (List α)}(hf:a0.flatten.length<1099511627776)(hb:a0.flatten.length*b<=140737488355328)(hl:a0.length<1099511627776)(hn:a0.length<n):afd z b n a0=some a0.flatten:=by
 have pre:∀i,i<=a0.length->(a0.take i).flatten.length<=a0.flatten.length:=λi _=>by
  conv=>rhs;rw[<- List.take_append_drop i a0,List.flatten_append,dQ]
  omega
 have step:∀i (hi:i<a0.length),(a0.take (i+1)).flatten=(a0.take i).flatten++a0[i]:=λi hi=>by rw[iR hi,List.flatten_append];simp
 have h1:iter (T5 a0) n ((0:Int),(0:Int))=some (a0.flatten.length:Int):=by
  refine iJ (λ i=>(((a0.take i).flatten.length:Int),(i:Int))) a0.length _ (λ i hi=>?_) ?_ n hn;have hi':decide ((i:Int)<(a0.length:Int))=true:=by simpa using hi
  have e1:(((a0.take i).flatten.length:Int)+(a0[i].length:Int))=((a0.take (i+1)).flatten.length:Int):=by rw[step i hi,dQ];omega
  have h3:=pre (i+1) (by omega);have e2:i64.wrap ((a0.take (i+1)).flatten.length:Int)=((a0.take (i+1)).flatten.length:Int):=Oc (by omega);have e3:decide (((a0.take (i+1)).flatten.length:Int)<0)=false:=by simp
  simp only[T5,hi',aj,aQ hi,ai,e1,e2,e3,au];rw[aL (by omega)];simp[T5]
 have h2:iter (T4 b a0) n ((0:Int),([]:List α))=some a0.flatten:=by
  refine iJ (λ i=>((i:Int),(a0.take i).flatten)) a0.length _ (λ i hi=>?_) ?_ n hn;have hi':decide ((i:Int)<(a0.length:Int))=true:=by simpa using hi
  have h3:=pre (i+1) (by omega);have e1:(a0.take i).flatten.length+a0[i].length=(a0.take (i+1)).flatten.length:=by rw[step i hi,dQ]
  have ap:bJ (a0.take i).flatten.length (a0.take i).flatten.length a0[i].length a0[i].length b=true:=bX (by rw[e1];exact Nat.le_trans (Nat.mul_le_mul_right _ h3) hb) (by simp only[maxLen];omega);simp only[T4,hi',aj,aQ hi,ai,ap,eu,aH,<- step i hi];rw[aL (by omega)];simp[T4]
 simp only[afd,h1,ai,ahQ z hb hf,aH,aj,h2,dO]
def G0(ne:α->α->Bool)(a b:List α):Int->Option (Int⊕(Unit⊕Bool))
 |v1=>(bif (decide (v1<((a.length:Int):Int)))then(bj a v1).bind λx1=>(bj b v1).bind λx2=>(bif ne x1 x2 then(some false).map λa=> .inr (.inr a)else some (.inl (i64.wrap (v1+1))))else some (.inr (.inl ())))
def Og(n:Nat)(ne:α->α->Bool)(a b:List α):Option Bool:=
 (bif ((a.length:Int) !=((b.length:Int):Int))then some false else dJ (iter (G0 ne a b) n (0:Int)) λ()=>some true)
theorem IX[DecidableEq α]{n:Nat}{ne:α->α->Bool}{a b:List α}(h:∀x y,ne x y=!decide (x=y))(hl:a.length<1099511627776)(hn:a.length<n):Og n ne a b=some (decide (a=b)):=by
 unfold Og;by_cases hlen:a.length=b.length;have h0:((a.length:Int) !=(b.length:Int))=false:=by simp[hlen]
 by_cases he:a=b;subst he;have:=iJ (step:=G0 ne a a) (λ i=>(i:Int)) a.length (.inl ()) (λ i hi=>?_) ?_ n hn;rw[show ((0:Nat):Int)=0 from rfl]at this;rw[this];simp;have hi':decide ((i:Int)<(a.length:Int))=true:=by simpa using hi
 simp only[G0,hi',aj,aQ hi,ai,h,decide_true,Bool.not_true,au];rw[aL (by omega)];simp[G0];have hp:∃i,∃(h1:i<a.length)(h2:i<b.length),a[i]≠b[i]/\∀j (hj:j<i),a[j]'(by omega)=b[j]'(by omega):=by
  have hex:∃i,∃(h1:i<a.length)(h2:i<b.length),a[i]≠b[i]:=by refine vL λhc=>he ?_;refine List.ext_getElem hlen λi h1 h2=>?_;exact vL λhne=>hc ⟨i,h1,h2,hne⟩
  have hmin:∀k,(∃ i,i<=k/\∃(h1:i<a.length)(h2:i<b.length),a[i]≠b[i])->∃i,∃(h1:i<a.length)(h2:i<b.length),a[i]≠b[i]/\∀j (hj:j<i),a[j]'(by omega)=b[j]'(by omega):=by
   intro k
   induction k with
   |zero=>
    rintro⟨i,hi,h1,h2,h3⟩;have:i=0:=(by omega);subst this;exact⟨0,h1,h2,h3,λj hj=>by omega⟩
   |succ k ih=>
    rintro⟨i,hi,h1,h2,h3⟩;by_cases hs:∃i,i<=k/\∃(h1:i<a.length)(h2:i<b.length),a[i]≠b[i];exact ih hs;refine⟨i,h1,h2,h3,λj hj=>?_⟩;exact vL λhne=>hs ⟨j,by omega,by omega,by omega,hne⟩
  obtain⟨i,h1,h2,h3⟩:=hex;exact hmin i ⟨i,aB i,h1,h2,h3⟩
 obtain⟨i,h1,h2,h3,h4⟩:=hp;have:=iJ (step:=G0 ne a b) (λ i=>(i:Int)) i (.inr false) (λ j hj=>?_) ?_ n (by omega);rw[show ((0:Nat):Int)=0 from rfl]at this;rw[this];simp[he];have hj':decide ((j:Int)<(a.length:Int))=true:=by simp;omega
 simp only[G0,hj',aj,aQ (show j<a.length by omega),aQ (show j<b.length by omega),ai,h,h4 j hj,decide_true,Bool.not_true,au];rw[aL (by omega)];have hi':decide ((i:Int)<(a.length:Int))=true:=by simpa using h1
 simp only[G0,hi',aj,aQ h1,aQ h2,ai,h,h3,decide_false,Bool.not_false,Option.map_some];have h0:((a.length:Int) !=(b.length:Int))=true:=by simp;omega
 rw[h0];have:a≠b:=λe=>hlen (by rw[e]);simp[this]
end
theorem LQ(p:Nat->Bool)(a b:Nat):(∃ i,a<=i/\i<b/\p i=true/\∀j,a<=j->j<i->p j=false)\/∀j,a<=j->j<b->p j=false:=by
 by_cases hab:a<=b;obtain⟨k,rfl⟩:∃k,b=a+k:=⟨b -a,by omega⟩;clear hab
 induction k with
 |zero=>exact .inr λj h1 h2=>by omega
 |succ k ih=>
  rcases ih with ⟨i,h1,h2,h3,h4⟩ |h;exact .inl ⟨i,h1,by omega,h3,h4⟩;cases hp:p (a+k)with
  |true=>exact .inl ⟨a+k,by omega,by omega,hp,λj h1 h2=>h j h1 h2⟩
  |false=>
   refine .inr λj h1 h2=>?_;by_cases e:j=a+k;subst e;exact hp;exact h j h1 (by omega)
 exact .inr λj h1 h2=>by omega
section
variable {α:Type}
def XB(ne:α->α->Bool)(a0:List α)(v1:Int):(Int×Int×List α)->Option ((Int×Int×List α)⊕(Int×List α))
 |(v2,v3,v4)=>(bif (decide (v3<((((a0.length -(v1:Int).toNat):Nat):Int):Int)))then(bif cP v3 (a0.length -(v1:Int).toNat)then(bj v4 (((0+(v1:Int).toNat):Nat)+v3:Int)).bind λx3=>bif cP (i64.wrap (v3 -1)) (a0.length -(v1:Int).toNat)then(bj v4 (((0+(v1:Int).toNat):Nat)+(i64.wrap (v3 -1)):Int)).bind λx4=>(bif ne x3 x4 then bif cP v3 (a0.length -(v1:Int).toNat)then(bj v4 (((0+(v1:Int).toNat):Nat)+v3:Int)).bind λx5=>bif cP v2 a0.length then(bj v4 ((0:Nat)+v2:Int)).bind λ_=>some ((i64.wrap (v2+1)),(v4.set ((0:Nat)+v2:Int).toNat x5))else none else none else some (v2,v4))else none else none:Option (Int×(List α))).bind λ(v5,v6)=>some (.inl (v5,(i64.wrap (v3+1)),v6))else some (.inr (v2,v4)))
def IY(eq ne:α->α->Bool)(n:Nat)(a0:List α):Int->Option (Int⊕(Unit⊕(Unit×List α)))
 |v1=>(bif (decide (v1<((a0.length:Int):Int)))then bif cP v1 a0.length then(bj a0 ((0:Nat)+v1:Int)).bind λx1=>bif cP (i64.wrap (v1 -1)) a0.length then(bj a0 ((0:Nat)+(i64.wrap (v1 -1)):Int)).bind λx2=>(bif eq x1 x2 then bif y9 v1 (a0.length:Int) a0.length then(iter (XB ne a0 v1) n (v1,(1:Int),a0)).bind λ(w1,w2)=>bif y9 w1 (a0.length:Int) a0.length then bif y9 0 w1 a0.length then(bif az ((w1:Int).toNat) ((w1:Int).toNat)then bif az (sub (w2.take (0+(w1:Int).toNat)) 0 ((w1:Int).toNat)).length ((w1:Int).toNat)then some ((),(sub (w2.take (0+(w1:Int).toNat)) 0 ((w1:Int).toNat)))else none else none).map λa=> .inr (.inr a)else none else none else none else some (.inl (i64.wrap (v1+1))))else none else none else some (.inr (.inl ())))
def abG(eq ne:α->α->Bool)(n:Nat)(a0:List α):Option (Unit×List α):=
 (bif (decide ((a0.length:Int)<(2:Int)))then bif az a0.length a0.length then bif az (sub a0 0 a0.length).length a0.length then some ((),(sub a0 0 a0.length))else none else none else dJ (iter (IY eq ne n a0) n (1:Int)) λ()=>bif az a0.length a0.length then bif az (sub a0 0 a0.length).length a0.length then some ((),(sub a0 0 a0.length))else none else none)
def um(ne:α->α->Bool)(s:α×List α)(x:α):α×List α:=(x,bif ne x s.1 then s.2++[x]else s.2)
def BW(ne:α->α->Bool):List α->List α
 |[]=>[]
 |x::xs=>x::(xs.foldl (um ne) (x,[])).2
theorem XC(ne:α->α->Bool)(xs:List α)(x:α)(K:List α):xs.foldl (um ne) (x,K)=((xs.foldl (um ne) (x,[])).1,K++(xs.foldl (um ne) (x,[])).2):=by
 induction xs generalizing x K with
 |nil=>simp
 |cons y xs ih=>
  simp[um];cases ne y x with
  |true=>simp;rw[ih y (K++[y]),ih y [y]];simp
  |false=>simp;rw[ih y K]
theorem QN(ne:α->α->Bool):∀(xs:List α)(x:α),(∀ i (h:i+1<(x::xs).length),ne ((x::xs)[i+1]) ((x::xs)[i])=true)->xs.foldl (um ne) (x,[])=((x::xs).getLast (by simp),xs)
 |[],x,_=>rfl
 |y::xs,x,h=>by have h0:=h 0 (by simp);simp at h0;simp[um,h0];rw[XC,QN ne xs y (λ i hi=>h (i+1) (by simp at hi ⊢;omega))];simp
theorem ZV{eq ne:α->α->Bool}(hen:∀x y,eq x y=!ne x y){n:Nat}{l:List α}(hl:l.length<1099511627776)(hn:l.length<n):abG eq ne n l=some ((),BW ne l):=by
 unfold abG;by_cases h2:l.length<2;have d:decide ((l.length:Int)<2)=true:=by simp;omega
 simp only[d,aj,aH,dO]
 match l,h2 with
 |[],_=>rfl
 |[x],_=>rfl
 |x::y::l,h2=>exact absurd h2 (by simp)
 have d:decide ((l.length:Int)<2)=false:=by simp;omega
 simp only[d,au,aH,aj,dO];obtain⟨x0,xs,rfl⟩:∃x xs,l=x::xs:=by
  cases l with
  |nil=>simp at h2
  |cons x xs=>exact⟨x,xs,rfl⟩
 generalize hL:(x0::xs)=l at*;have step1:∀(i:Nat)(hi:i<l.length)(h1:1<=i),eq (l[i]) (l[i -1]'(by omega))=false->IY eq ne n l (i:Int)=some (.inl ((i+1:Nat):Int)):=λi hi h1 he=>by
  have d1:decide ((i:Int)<(l.length:Int))=true:=by simpa using hi
  simp only[IY,d1,aj,aZ hi,bK hi,ai];rw[lF (by omega) (by omega)];simp only[aZ (show i -1<l.length by omega),aj,bK (show i -1<l.length by omega),ai,he,au];rw[aL (by omega)]
 rcases LQ (λ i=>if h:i<l.length then eq (l[i]) (l[i -1]'(by omega))else false) 1 l.length with ⟨i,h1,hi,hp,hq⟩ |hnone;simp only[hi,dite_true]at hp;have hq':∀j (hj1:1<=j) (hj:j<i),eq (l[j]'(by omega)) (l[j -1]'(by omega))=false:=λj hj1 hj=>by have:=hq j hj1 hj;simpa only[show j<l.length by omega,dite_true]using this
 have hK:∀s:α×List α,((l.drop (i+1)).foldl (um ne) s).2.length<=s.2.length+(l.length -(i+1)):=by
  have:∀(ys:List α)(s:α×List α),(ys.foldl (um ne) s).2.length<=s.2.length+ys.length:=by
   intro ys
   induction ys with
   |nil=>intro s;simp
   |cons y ys ih=>
    intro s;simp only[List.foldl_cons,eD];refine Nat.le_trans (ih _) ?_;simp only[um];cases ne y s.1<;>simp<;>omega
  intro s;have:=this (l.drop (i+1)) s
  rwa [length_drop]at this
 have hin:iter (XB ne l (i:Int)) n ((i:Int),(1:Int),l)=some (((i+((l.drop (i+1)).foldl (um ne) (l[i],[])).2.length:Nat):Int),l.take i++((l.drop (i+1)).foldl (um ne) (l[i],[])).2++l.drop (i+((l.drop (i+1)).foldl (um ne) (l[i],[])).2.length)):=by
  have:=dN (l:=l.drop (i+1)) (step:=XB ne l (i:Int)) (λ j (s:α×List α)=>(((i+s.2.length:Nat):Int),((j+1:Nat):Int),l.take i++s.2++l.drop (i+s.2.length))) (λ x s=>um ne s x) (λ s=>(((i+s.2.length:Nat):Int),l.take i++s.2++l.drop (i+s.2.length)))
   (λ j s=>s.2.length<=j/\l[i+j]? =some s.1) (λ j hj s hs=>?_) (λ s hs=>?_) n (by rw[length_drop];omega) (l[i],[]) ⟨aB 0,by simp[hi]⟩
  simpa using this;obtain⟨s1,s2⟩:=hs;rw[length_drop]at hj;have hx:(l.drop (i+1))[j]'(by rw[length_drop];omega)=l[i+1+j]'(by omega):=by rw[List.getElem_drop]
  have gv:∀k,s.2.length<=k->(l.take i++s.2++l.drop (i+s.2.length))[i+k]? =l[i+k]? :=λk hk=>by rw[qD (by simp[length_take];omega),List.getElem?_drop];congr 1;simp only[dQ,length_take];omega
  have tn:(i:Int).toNat=i:=by simp
  have d1:decide (((j+1:Nat):Int)<(((l.length -i:Nat)):Int))=true:=by simp;omega
  have a1:bj (l.take i++s.2++l.drop (i+s.2.length)) (((0+i:Nat):Int)+((j+1:Nat):Int))=some (l[i+1+j]'(by omega)):=by rw[show (((0+i:Nat):Int)+((j+1:Nat):Int))=((i+(j+1):Nat):Int)by omega,ES,gv (j+1) (by omega),show i+(j+1)=i+1+j by omega];exact dF (by omega)
  have a2:bj (l.take i++s.2++l.drop (i+s.2.length)) (((0+i:Nat):Int)+(j:Int))=some s.1:=by rw[show (((0+i:Nat):Int)+(j:Int))=((i+j:Nat):Int)by omega,ES,gv j s1,s2]
  have wp:i64.wrap (((j+1:Nat):Int) -1)=(j:Int):=by rw[lF (by omega) (by omega)];rfl
  refine⟨?_,?_,?_⟩;simp only[XB,tn,d1,aj,aZ (show j+1<l.length -i by omega),a1,ai,wp,aZ (show j<l.length -i by omega),a2,hx,um];cases hne:ne (l[i+1+j]'(by omega)) s.1 with
  |false=>simp only[au,ai];rw[aL (by omega)]
  |true=>
   have g2:bj (l.take i++s.2++l.drop (i+s.2.length)) (((0:Nat):Int)+((i+s.2.length:Nat):Int))=some (l[i+s.2.length]'(by omega)):=(by rw[EU,gv s.2.length (aB _)];exact dF (by omega));have z:(((0:Nat):Int)+((i+s.2.length:Nat):Int)).toNat=i+s.2.length:=(by omega);have st:(l.take i++s.2++l.drop (i+s.2.length)).set (i+s.2.length) (l[i+1+j]'(by omega))=l.take i++(s.2++[l[i+1+j]'(by omega)])++l.drop (i+(s.2++[l[i+1+j]'(by omega)]).length):=(by rw[List.set_append_right _ _ (by simp[length_take];omega)];have e0:i+s.2.length -(l.take i++s.2).length=0:=(by simp[length_take];omega);rw[e0,List.drop_eq_getElem_cons (show i+s.2.length<l.length by omega)];simp only[List.set_cons_zero,dQ,List.length_singleton,aT,List.singleton_append];rfl);simp only[aj,aZ (show i+s.2.length<l.length by omega),g2,ai,z,st];rw[aL (by omega),aL (by omega),dQ,List.length_singleton];rfl
  simp only[um];cases ne _ s.1<;>simp<;>omega;simp only[um];rw[show i+(j+1)=i+1+j by omega,hx];exact dF (by omega);obtain⟨s1,s2⟩:=hs;rw[length_drop]at s1 ⊢;have tn:(i:Int).toNat=i:=by simp
  have d1:decide (((l.length -(i+1)+1:Nat):Int)<(((l.length -i:Nat)):Int))=false:=by simp;omega
  simp only[XB,tn,d1,au]
 have hfin:IY eq ne n l (i:Int)=some (.inr (.inr ((),BW ne l))):=by
  have d1:decide ((i:Int)<(l.length:Int))=true:=by simpa using hi
  simp only[IY,d1,aj,aZ hi,bK hi,ai];rw[lF (by omega) (by omega)];simp only[aZ (show i -1<l.length by omega),aj,bK (show i -1<l.length by omega),ai,hp];have s0:y9 (i:Int) (l.length:Int) l.length=true:=vT (by omega) (by omega) (by omega);have hk:=hK (l[i],[]);simp only[List.length_nil,Nat.zero_add]at hk;have res:l.take i++((l.drop (i+1)).foldl (um ne) (l[i],[])).2=BW ne l:=by
   have hd:ne (l[i]) (l[i -1]'(by omega))=false:=(by have:=hen (l[i]) (l[i -1]'(by omega));rw[hp]at this;simpa using this.symm);subst hL;obtain⟨m,rfl⟩:∃m,i=m+1:=⟨i -1,by omega⟩;have hm:m<xs.length:=(by simp at hi;omega);have e1:xs=xs.take m++xs[m]::xs.drop (m+1):=(by rw[<- List.drop_eq_getElem_cons hm,List.take_append_drop]);have e2:(xs.take m).foldl (um ne) (x0,[])=((x0::xs.take m).getLast (by simp),xs.take m):=by
    refine QN ne _ x0 λk hk=>?_;simp only[eD,length_take]at hk;have h9:=hq' (k+1) (by omega) (by omega);rw[hen]at h9;have:ne ((x0::xs)[k+1]'(by simp;omega)) ((x0::xs)[k]'(by simp;omega))=true:=(by simpa using h9);have t:∀q (hq:q<(x0::xs.take m).length),(x0::xs.take m)[q]=(x0::xs)[q]'(by simp[length_take]at hq ⊢;omega):=λq hq=>by
     cases q with
     |zero=>rfl
     |succ q=>simp
    rw[t,t];exact this
   have Jn:(x0::xs.take m).getLast (by simp)=(x0::xs)[m+1 -1]'(by simp;omega):=by
    rw[List.getLast_eq_getElem];simp only[eD,length_take,Nat.add_sub_cancel];have:min m xs.length=m:=Nat.min_eq_left (by omega);cases m with
    |zero=>simp
    |succ m=>simp[this]
   simp only[List.getElem_cons_succ,List.drop_succ_cons,List.take_succ_cons,List.cons_append,BW,List.cons.injEq,true_and]
   conv=>rhs;rw[e1,List.foldl_append,e2]
   simp only[List.foldl_cons,um];rw[Jn];simp only[List.getElem_cons_succ]at hd;rw[hd,au,XC ne (List.drop (m+1) xs) xs[m] (List.take m xs)]
  have tl:(l.take i++((l.drop (i+1)).foldl (um ne) (l[i],[])).2).length=i+((l.drop (i+1)).foldl (um ne) (l[i],[])).2.length:=by rw[dQ,length_take,Nat.min_eq_left (by omega)]
  simp only[s0,aj,hin,ai];have s1:y9 ((i+((l.drop (i+1)).foldl (um ne) (l[i],[])).2.length:Nat):Int) (l.length:Int) l.length=true:=vT (by omega) (by omega) (by omega);have s2:y9 0 ((i+((l.drop (i+1)).foldl (um ne) (l[i],[])).2.length:Nat):Int) l.length=true:=vT (by omega) (by omega) (by omega);have tk:(l.take i++((l.drop (i+1)).foldl (um ne) (l[i],[])).2++l.drop (i+((l.drop (i+1)).foldl (um ne) (l[i],[])).2.length)).take (i+((l.drop (i+1)).foldl (um ne) (l[i],[])).2.length)=l.take i++((l.drop (i+1)).foldl (um ne) (l[i],[])).2:=by rw[List.take_append_of_le_length (by rw[tl];exact aB _),<- tl,List.take_length]
  simp only[s1,s2,aj,Int.toNat_natCast,aH,Nat.zero_add,tk];rw[<- tl,dO,aH,aj,res];rfl
 have:=iJ (step:=IY eq ne n l) (λ k=>((k+1:Nat):Int)) (i -1) (.inr ((),BW ne l)) (λ k hk=>?_) ?_ n (by omega);rw[show ((0+1:Nat):Int)=1 from rfl]at this;rw[this];rfl;exact step1 (k+1) (by omega) (by omega) (hq' (k+1) (by omega) (by omega));rw[show i -1+1=i by omega];exact hfin;have hnone':∀j (hj1:1<=j) (hj:j<l.length),eq (l[j]) (l[j -1]'(by omega))=false:=λj hj1 hj=>by have:=hnone j hj1 hj;simpa[hj,dite_true]using this
 have:=iJ (step:=IY eq ne n l) (λ k=>((k+1:Nat):Int)) (l.length -1) (.inl ()) (λ k hk=>?_) ?_ n (by omega);rw[show ((0+1:Nat):Int)=1 from rfl]at this;rw[this];simp[iC];subst hL;simp[BW];rw[QN ne xs x0 λk hk=>?_];have h9:=hnone' (k+1) (by omega) hk;rw[hen]at h9;simp[Nat.add_sub_cancel]at h9;simpa using h9;exact step1 (k+1) (by omega) (by omega) (hnone' (k+1) (by omega) (by omega));rw[show l.length -1+1=l.length by omega];simp[IY]
end
theorem aff(l:List Int):BW (λ x y=>x !=y) l=iM l:=by
 match l with
 |[] |[x]=>rfl
 |x::y::l=>
  have ih:=aff (y::l);simp[BW,um,iM]at ih ⊢;by_cases h:y=x;subst h;simp;exact ih;have h1:(y !=x)=true:=by simp[h]
  have h2:(x==y)=false:=by simp[Ne.symm h]
  simp[h1,h2];rw[XC,<- ih];simp
open Go.Sort Go.RowKit
theorem arE{i j:Nat}(h:i+j<=9223372036854775807):i64.wrap ((i:Int)+(j:Int))=((i+j:Nat):Int):=by rw[dw (by omega) (by omega)];omega
theorem abH{x:Nat}(h:x<18446744073709551616):IntKind.u64.wrap (x:Int)=(x:Int):=by simp[IntKind.wrap,IntKind.bits,IntKind.signed];omega
section
variable {α:Type} [Inhabited α] {lt:α->α->Bool}
def jq(lt:α->α->Bool)(l:List α):List α:=(Go.Sort.sort lt l.toArray).toList
theorem XD(hS:SWO lt)(l:List α):(jq lt l).Perm l:=by
 obtain⟨h1,_⟩:=sort_sorts lt hS l.toArray;obtain⟨hs,_,hp⟩:=h1;have e1:((Go.Sort.sort lt l.toArray).extract 0 l.toArray.size).toList=(Go.Sort.sort lt l.toArray).toList:=by rw[<- hs];simp
 have e2:(l.toArray.extract 0 l.toArray.size).toList=l:=by simp
 rw[e1,e2]at hp;exact hp
theorem ac7(hS:SWO lt)(l:List α):(jq lt l).Pairwise λx y=>lt y x=false:=by obtain⟨h1,h2⟩:=sort_sorts lt hS l.toArray;have hs:=h1.1;rw[jq,List.pairwise_iff_getElem];intro i j hi hj hij;simp at hi hj;have:=h2 i j (Nat.zero_le _) hij (by omega);rw[getElem!_pos _ j hj,getElem!_pos _ i hi]at this;simpa using this
theorem EX(hS:SWO lt)(l:List α):(jq lt l).length=l.length:=(XD hS l).length_eq
end
section
variable {α:Type} [Inhabited α] (lt:α->α->Bool)
def aqW(a b:Nat)(wb wp:Bool)(l:Nat)(d3:Array α)(pv:Nat):Array α:=
 if (a>0&&!lt d3[a -1]! d3[pv]!)=true then
  if a<(partitionEqual lt d3 a b pv).1/\(partitionEqual lt d3 a b pv).1<=b then pdq lt (partitionEqual lt d3 a b pv).2 (partitionEqual lt d3 a b pv).1 b l wb wp else(partitionEqual lt d3 a b pv).2
 else if a<=(partition lt d3 a b pv).1/\(partition lt d3 a b pv).1<b then
  if (partition lt d3 a b pv).1 -a<b -(partition lt d3 a b pv).1 then
   pdq lt (pdq lt (partition lt d3 a b pv).2.2 a (partition lt d3 a b pv).1 l true true) ((partition lt d3 a b pv).1+1) b l (decide ((partition lt d3 a b pv).1 -a>=(b -a)/8)) (partition lt d3 a b pv).2.1
  else pdq lt (pdq lt (partition lt d3 a b pv).2.2 ((partition lt d3 a b pv).1+1) b l true true) a (partition lt d3 a b pv).1 l (decide (b -(partition lt d3 a b pv).1>=(b -a)/8)) (partition lt d3 a b pv).2.1
 else(partition lt d3 a b pv).2.2
def aqX(a b:Nat)(wb wp:Bool)(l:Nat)(d2:Array α)(pv:Nat)(hint:Hint):Array α:=
 let pi:=if (wb&&wp&&decide (hint= .increasing))=true then partialInsertionSort lt d2 a b else(d2,false)
 if pi.2=true then pi.1 else aqW lt a b wb wp l pi.1 pv
def aqY(a b:Nat)(wb wp:Bool)(l:Nat)(d1:Array α):Array α:=
 let c:=choosePivot lt d1 a b
 aqX lt a b wb wp l (if c.2= .decreasing then reverseRange d1 a b else d1) (if c.2= .decreasing then(b -1) -(c.1 -a)else c.1) (if c.2= .decreasing then .increasing else c.2)
theorem pdq_eq(d:Array α)(a b l:Nat)(wb wp:Bool):pdq lt d a b l wb wp=if b -a<=12 then insertionSort lt d a b else if l=0 then heapSort lt d a b else aqY lt a b wb wp (if (!wb)=true then l -1 else l) (if (!wb)=true then breakPatterns d a b else d):=by rw[pdq];rfl
end
section
variable {α β:Type} [Inhabited α] [Inhabited β] {f:α->β} (hf:f default=default) (lt:β->β->Bool)
include hf
theorem qJ(d:Array α)(i:Nat):(d.map f)[i]! =f d[i]! :=by by_cases h:i<d.size;rw[getElem!_pos _ i (by simpa using h),getElem!_pos d i h];simp;rw[getElem!_neg _ i (by simpa using h),getElem!_neg d i h,hf]
theorem rZ(d:Array α)(i j:Nat):swp (d.map f) i j=(swp d i j).map f:=by simp[swp,qJ hf]
theorem Oh(a:Nat):∀(j:Nat)(d:Array α),insInner lt a j (d.map f)=(insInner (λ x y=>lt (f x) (f y)) a j d).map f
 | 0,d=>rfl
 |j+1,d=>by simp[insInner,qJ hf,rZ hf];split;exact Oh a j _;rfl
theorem Oi(a b i:Nat)(d:Array α):insOuter lt a b i (d.map f)=(insOuter (λ x y=>lt (f x) (f y)) a b i d).map f:=by
 rw[insOuter]
 conv=>rhs;rw[insOuter]
 split;rw[Oh hf];exact Oi a b (i+1) _;rfl
termination_by b -i
theorem yw(hi first ao:Nat)(d:Array α):siftDown lt hi first ao (d.map f)=(siftDown (λ x y=>lt (f x) (f y)) hi first ao d).map f:=by
 rw[siftDown]
 conv=>rhs;rw[siftDown]
 simp[qJ hf,rZ hf];split;rfl;split;split;rfl;split;exact yw hi first _ _
 rfl;split;rfl;exact yw hi first _ _
termination_by hi -ao
theorem LU(hi first:Nat):∀(k:Nat)(d:Array α),heapBuild lt hi first k (d.map f)=(heapBuild (λ x y=>lt (f x) (f y)) hi first k d).map f
 | 0,d=>rfl
 |k+1,d=>by simp[heapBuild,yw hf];exact LU hi first k _
theorem Tj(first:Nat):∀(k:Nat)(d:Array α),heapPop lt first k (d.map f)=(heapPop (λ x y=>lt (f x) (f y)) first k d).map f
 | 0,d=>rfl
 |k+1,d=>by simp[heapPop,rZ hf,yw hf];exact Tj first k _
theorem EY(p:β->Bool)(d:Array α)(j i:Nat):scanUp p (d.map f) j i=scanUp (λ x=>p (f x)) d j i:=by
 rw[scanUp]
 conv=>rhs;rw[scanUp]
 simp[qJ hf];split;exact EY p d j (i+1);rfl
termination_by j+1 -i
decreasing_by omega
theorem yx(p:β->Bool)(d:Array α)(i:Nat):∀j,scanDown p (d.map f) i j=scanDown (λ x=>p (f x)) d i j
 | 0=>rfl
 |j+1=>by simp[scanDown,qJ hf];split;exact yx p d i j;rfl
theorem Oj(a i j:Nat)(d:Array α):partLoop lt a i j (d.map f)=((partLoop (λ x y=>lt (f x) (f y)) a i j d).1,(partLoop (λ x y=>lt (f x) (f y)) a i j d).2.map f):=by
 rw[partLoop]
 conv=>rhs;rw[partLoop]
 simp[qJ hf,rZ hf,EY hf,yx hf];split;rfl;split;exact Oj a _ _ _;rfl
termination_by j+1 -i
theorem IZ(a i j:Nat)(d:Array α):partEqLoop lt a i j (d.map f)=((partEqLoop (λ x y=>lt (f x) (f y)) a i j d).1,(partEqLoop (λ x y=>lt (f x) (f y)) a i j d).2.map f):=by
 rw[partEqLoop]
 conv=>rhs;rw[partEqLoop]
 simp[qJ hf,rZ hf,EY hf,yx hf];split;rfl;split;exact IZ a _ _ _;rfl
termination_by j+1 -i
theorem I4(d:Array α)(b i:Nat):scanSorted lt (d.map f) b i=scanSorted (λ x y=>lt (f x) (f y)) d b i:=by
 rw[scanSorted]
 conv=>rhs;rw[scanSorted]
 simp only[qJ hf];split;exact I4 d b (i+1);rfl
termination_by b -i
decreasing_by simp_all;omega
theorem LV:∀(j:Nat)(d:Array α),shiftDown lt j (d.map f)=(shiftDown (λ x y=>lt (f x) (f y)) j d).map f
 | 0,d=>rfl
 |j+1,d=>by simp[shiftDown,qJ hf,rZ hf];split;rfl;exact LV j _
theorem Tk(b j:Nat)(d:Array α):shiftUp lt b j (d.map f)=(shiftUp (λ x y=>lt (f x) (f y)) b j d).map f:=by
 rw[shiftUp]
 conv=>rhs;rw[shiftUp]
 simp[qJ hf,rZ hf];split;split;rfl;exact Tk b (j+1) _;rfl
termination_by b -j
theorem I5(a b:Nat):∀(s i:Nat)(d:Array α),partialIns lt a b s i (d.map f)=((partialIns (λ x y=>lt (f x) (f y)) a b s i d).1.map f,(partialIns (λ x y=>lt (f x) (f y)) a b s i d).2)
 | 0,i,d=>rfl
 |s+1,i,d=>by
  simp[partialIns,I4 hf,rZ hf,LV hf];split;rfl;split;rfl;have e:∀(c:Prop) [Decidable c] (x y:Array α),(if c then x.map f else y.map f)=(if c then x else y).map f:=λc _ x y=>by split<;>rfl
  simp[e,Tk hf];exact I5 a b s _ _
theorem ahS(d:Array α)(a b s:Nat):order2 lt (d.map f) a b s=order2 (λ x y=>lt (f x) (f y)) d a b s:=by simp[order2,qJ hf]
theorem ahT(d:Array α)(a b c s:Nat):median lt (d.map f) a b c s=median (λ x y=>lt (f x) (f y)) d a b c s:=by simp[median,ahS hf]
theorem TY(d:Array α)(a b:Nat):choosePivot lt (d.map f) a b=choosePivot (λ x y=>lt (f x) (f y)) d a b:=by simp only[choosePivot,medianAdjacent,ahT hf];rfl
theorem Gj(i j:Nat)(d:Array α):reverseLoop i j (d.map f)=(reverseLoop i j d).map f:=by
 rw[reverseLoop]
 conv=>rhs;rw[reverseLoop]
 simp[rZ hf];split;exact Gj _ _ _;rfl
termination_by j -i
theorem Ol(d:Array α)(a b:Nat):breakPatterns (d.map f) a b=(breakPatterns d a b).map f:=by simp[breakPatterns,breakStep,rZ hf];split<;>rfl
omit hf [Inhabited α] [Inhabited β]in
theorem ajx(c:Prop)[Decidable c](x y:Array α):(if c then x.map f else y.map f)=(if c then x else y).map f:=by split<;>rfl
theorem afg(d:Array α)(a b:Nat):partialInsertionSort lt (d.map f) a b=((partialInsertionSort (λ x y=>lt (f x) (f y)) d a b).1.map f,(partialInsertionSort (λ x y=>lt (f x) (f y)) d a b).2):=by simp[partialInsertionSort,I5 hf]
theorem Ms(d:Array α)(a b p:Nat):partitionEqual lt (d.map f) a b p=((partitionEqual (λ x y=>lt (f x) (f y)) d a b p).1,(partitionEqual (λ x y=>lt (f x) (f y)) d a b p).2.map f):=by simp[partitionEqual,rZ hf,IZ hf]
theorem ZW(d:Array α)(a b p:Nat):partition lt (d.map f) a b p=((partition (λ x y=>lt (f x) (f y)) d a b p).1,(partition (λ x y=>lt (f x) (f y)) d a b p).2.1,(partition (λ x y=>lt (f x) (f y)) d a b p).2.2.map f):=by simp[partition,rZ hf,qJ hf,EY hf,yx hf,Oj hf];split<;>rfl
theorem Ki(d:Array α)(a b l:Nat)(wb wp:Bool):pdq lt (d.map f) a b l wb wp=(pdq (λ x y=>lt (f x) (f y)) d a b l wb wp).map f:=by
 rw[pdq_eq]
 conv=>rhs;rw[pdq_eq]
 split;simp[insertionSort,Oi hf];split;simp[heapSort,LU hf,Tj hf];rw[Ol hf,ajx];generalize (if (!wb)=true then breakPatterns d a b else d)=d1;simp[aqY,TY hf];generalize choosePivot (λ x y=>lt (f x) (f y)) d1 a b=c;rw[show reverseRange (d1.map f) a b=(reverseRange d1 a b).map f from Gj hf _ _ _,ajx];generalize (if c.2=Hint.decreasing then reverseRange d1 a b else d1)=d2;generalize (if c.2=Hint.decreasing then(b -1) -(c.1 -a)else c.1)=pv;generalize (if c.2=Hint.decreasing then Hint.increasing else c.2)=hint;simp only[aqX,afg hf];generalize hq:partialInsertionSort (λ x y=>lt (f x) (f y)) d2 a b=q;have hpi:(if (wb&&wp&&decide (hint= .increasing))=true then(q.1.map f,q.2)else(d2.map f,false))=(((if (wb&&wp&&decide (hint= .increasing))=true then q else(d2,false)).1).map f,(if (wb&&wp&&decide (hint= .increasing))=true then q else(d2,false)).2):=by split<;>rfl
 rw[hpi];generalize (if (wb&&wp&&decide (hint= .increasing))=true then q else(d2,false))=pi;split;rfl;simp[aqW,qJ hf,Ms hf,ZW hf];split;split;exact Ki _ _ _ _ _ _;rfl;split;split;rw[Ki _ _ _ _ _ _,Ki _ _ _ _ _ _];rw[Ki _ _ _ _ _ _,Ki _ _ _ _ _ _];rfl
termination_by b -a
decreasing_by all_goals omega
theorem amL(l:List α):jq lt (l.map f)=(jq (λ x y=>lt (f x) (f y)) l).map f:=by unfold jq sort;rw[<- List.map_toArray,Ki hf];simp
end
abbrev pm(a b:Int):Bool:=decide (a<b)
theorem aoH:Go.Sort.SWO pm where
 irrefl x:=by simp[pm]
 trans x y z h1 h2:=by simp only[pm,bF]at *;omega
 ntrans x y z h1 h2:=by simp only[pm,fF]at *;omega
theorem abI:∀{l m:List Int},l.Perm m->l.Pairwise (λ x y=>pm y x=false)->m.Pairwise (λ x y=>pm y x=false)->l=m
 |[],m,h,_,_=>(List.nil_perm.1 h).symm
 |x::l,[],h,_,_=>by have:=h.length_eq;simp at this
 |x::l,y::m,h,h1,h2=>by
  have e:x=y:=by rw[pairwise_cons]at h1 h2;have m1:x∈y::m:=h.mem_iff.1 List.mem_cons_self;have m2:y∈x::l:=h.mem_iff.2 List.mem_cons_self;rcases aI.1 m1 with e |m1;exact e;rcases aI.1 m2 with e |m2;exact e.symm;have a:=h1.1 y m2;have b:=h2.1 x m1;simp at a b;omega
  subst e;rw[pairwise_cons]at h1 h2;rw[abI (List.Perm.cons_inv h) h1.2 h2.2]
theorem I6{α:Type}(lt:α->α->Bool)(x:α):∀ys:List α,(nN lt x ys).Perm (x::ys)
 |[]=>List.Perm.refl _
 |y::ys=>by
  simp[nN];cases lt x y with
  |true=>exact((I6 lt x ys).cons y).trans (List.Perm.swap x y ys)
  |false=>exact List.Perm.refl _
theorem EZ{α:Type}(lt:α->α->Bool)(l:List α):(kr lt l).Perm l:=by
 have gen:∀(xs rs:List α),(xs.foldl (λ rs x=>nN lt x rs) rs).Perm (xs++rs):=by
  intro xs
  induction xs with
  |nil=>intro rs;exact List.Perm.refl _
  |cons x xs ih=>
   intro rs;refine(ih _).trans ?_;refine((I6 lt x rs).append_left xs).trans ?_;exact List.perm_middle
 exact(List.reverse_perm _).trans (by simpa using gen l [])
theorem ajy{α:Type}{lt:α->α->Bool}(hS:Go.Sort.SWO lt)(x:α):∀ys:List α,ys.Pairwise (λ a b=>lt a b=false)->(nN lt x ys).Pairwise λa b=>lt a b=false
 |[],_=>by simp[nN]
 |y::ys,h=>by
  have h':=pairwise_cons.1 h;simp[nN];cases hxy:lt x y with
  |true=>
   rw[aj,pairwise_cons];refine⟨λ z hz=>?_,ajy hS x ys h'.2⟩;rcases aI.1 ((I6 lt x ys).mem_iff.1 hz)with rfl |hz;cases hyx:lt y z with
   |false=>rfl
   |true=>have:=hS.trans _ _ _ hxy hyx;rw[hS.irrefl]at this;cases this
   exact h'.1 z hz
  |false=>
   rw[au,pairwise_cons];refine⟨λ z hz=>?_,h⟩;rcases aI.1 hz with rfl |hz;exact hxy;exact hS.ntrans _ _ _ hxy (h'.1 z hz)
theorem amM{α:Type}{lt:α->α->Bool}(hS:Go.Sort.SWO lt)(l:List α):(kr lt l).Pairwise λx y=>lt y x=false:=by
 have gen:∀(xs rs:List α),rs.Pairwise (λ a b=>lt a b=false)->(xs.foldl (λ rs x=>nN lt x rs) rs).Pairwise λa b=>lt a b=false:=by
  intro xs
  induction xs with
  |nil=>intro rs h;exact h
  |cons x xs ih=>intro rs h;exact ih _ (ajy hS x rs h)
 rw[kr,List.pairwise_reverse];exact gen l [] List.Pairwise.nil
theorem ZX(l:List Int):(l.mergeSort λx y=>decide (x<=y))=kr pm l:=by refine abI ((List.mergeSort_perm l _).trans (EZ pm l).symm) ?_ (amM aoH l);refine(List.pairwise_mergeSort (le:=λx y:Int=>decide (x<=y)) (λ a b c h1 h2=>?_) (λ a b=>?_) l).imp ?_;rw[bF]at *;omega;rw[Bool.or_eq_true,bF,bF];omega;intro a b h;rw[bF]at h;exact decide_eq_false (by omega)
end Go.Gb
