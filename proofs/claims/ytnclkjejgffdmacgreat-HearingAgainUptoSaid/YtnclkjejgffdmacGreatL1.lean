import Derived.Test.YtnclkjejgffdmacGreatW3
import Derived.Sort.AssemblyPlain
open Go.IntKind (i64)
open List (length_take length_drop pairwise_cons)
namespace Go.Gb
abbrev ck{α:Type}(c:Bool)(x:J α):J α:=cond c x none
abbrev Stp(Φ O:Type):Type:=Φ->J (Φ⊕O)
end Go.Gb
namespace Go.Gb
open Go.RowKit
theorem fm:((0:Nat):Int)=0:=rfl
theorem bP{x:Int}(h1: -9223372036854775808<=x:=by omega)(h2:x<=9223372036854775807:=by omega):i64.wrap x=x:=by rw[IntKind.wrap_i64];omega
theorem Oy{x:Nat}(h:x<=9223372036854775807):i64.wrap (x:Int)=(x:Int):=bP (by omega) (by omega)
theorem aL{i:Nat}(h:i<9223372036854775807):i64.wrap ((i:Int)+1)=((i+1:Nat):Int):=by rw[bP (by omega) (by omega)];omega
theorem aZ(i:Nat)(h:i<9223372036854775807:=by omega):IntKind.i64.wrap ((i:Int)+1)=((i+1:Nat):Int):=aL h
theorem nU{i:Nat}(h0:0<i)(h:i<=9223372036854775807):i64.wrap ((i:Int)-1)=((i-1:Nat):Int):=by rw[bP (by omega) (by omega)];omega
section
variable {α G Φ V O W:Type}
@[simp] theorem Fh (l:Y α) (i:Nat):bx l (i:Int)=l[i]? :=by simp[bx]
theorem Fj(l:Y α)(i:Nat):bx l (((0:Nat):Int)+(i:Int))=l[i]? :=by simp
theorem aO{l:Y α}{i:Nat}(h:i<l.length):bx l (i:Int)=some l[i]:=by simp
theorem bJ{l:Y α}{i:Nat}(h:i<l.length):bx l (((0:Nat):Int)+(i:Int))=some l[i]:=by simp
theorem aj3{l:Y α}(h:0<l.length):bx l 0=some l[0]:=by have:=aO h;simpa using this
@[simp] theorem asn (i n:Nat):cV (i:Int) n=decide (i<n):=by simp[cV]
theorem aV{i n:Nat}(h:i<n):cV (i:Int) n=true:=by simp[h]
@[simp] theorem dV (a:α) (f:α->G):gU a f=f a:=rfl
@[simp] theorem aH (a:Nat):aE a a=true:=by simp[aE]
theorem Q8{a b:Nat}(h:a=b):aE a b=true:=by simp[h]
@[simp] theorem dP (l:Y α):sub l 0 l.length=l:=by simp[sub]
@[simp] theorem arq (n b:Nat):bF 0 0 n n b=(decide (n*b<=140737488355328)&&decide (n<=maxLen)):=by simp[bF]
theorem bV{a n b:Nat}(h1:(a+n)*b<=140737488355328:=by omega)(h2:a+n<=maxLen:=by simp only[maxLen];omega):bF a a n n b=true:=by simp[bF,h1,h2]
theorem zo{l h:Int}{n:Nat}(h1:0<=l)(h2:l<=h)(h3:h<=(n:Int)):Cc l h n=true:=by simp[Cc,h1,h2,h3]
@[simp] theorem gG (w:W) (f:W->J α):dO (some (Sum.inl w:W⊕α)) f=f w:=rfl
@[simp] theorem tZ (a:α) (f:W->J α):dO (some (Sum.inr a:W⊕α)) f=some a:=rfl
theorem Kv(step:V->J (V⊕O))(n:Nat)(v:V):iter step (n+1) v=(step v).bind λr=>match r with
 |.inl v=>iter step n v
 |.inr o=>some o:=rfl
theorem jP{step:V->J (V⊕O)}{n:Nat}{v v':V}(h:step v=some (.inl v')):iter step (n+1) v=iter step n v':=by rw[Kv,h];rfl
theorem fP{step:V->J (V⊕O)}{n:Nat}{v:V}{o:O}(h:step v=some (.inr o)):iter step (n+1) v=some o:=by rw[Kv,h];rfl
theorem fV{step:V->J (V⊕O)}(g:Nat->V)(N:Nat)(o:O)(h:∀i,i<N->step (g i)=some (.inl (g (i+1))))(hN:step (g N)=some (.inr o)):
 ∀n,N<n->iter step n (g 0)=some o:=by
 have main:∀k i n,i+k=N->k<n->iter step n (g i)=some o:=by
  intro k
  induction k with
  |zero=>
   intro i n hi hn;obtain⟨m,rfl⟩:∃m,n=m+1:=⟨n-1,by omega⟩;have:i=N:=(by omega);subst this;exact fP hN
  |succ k ih=>
   intro i n hi hn;obtain⟨m,rfl⟩:∃m,n=m+1:=⟨n-1,by omega⟩;rw[jP (h i (by omega))];exact ih (i+1) m (by omega) (by omega)
 intro n hn;exact main N 0 n (by omega) hn
def Oz(f:α->Φ->Φ⊕O)(fin:Φ->O):Y α->Φ->O
 |[],s=>fin s
 |x::xs,s=>match f x s with
  |.inl s'=>Oz f fin xs s'
  |.inr o=>o
theorem X6{l:Y α}{step:V->J (V⊕O)}(enc:Nat->Φ->V)(f:α->Φ->Φ⊕O)(fin:Φ->O)(Inv:Nat->Φ->Prop)
 (h:∀i (hi:i<l.length) s,Inv i s->step (enc i s)=some (match f l[i] s with|.inl s'=>.inl (enc (i+1) s')|.inr o=>.inr o)/\∀s',f l[i] s=.inl s'->Inv (i+1) s')
 (hend:∀s,Inv l.length s->step (enc l.length s)=some (.inr (fin s))):∀n,l.length<n->∀s,Inv 0 s->iter step n (enc 0 s)=some (Oz f fin l s):=by
 have main:∀k i n,i+k=l.length->k<n->∀s,Inv i s->iter step n (enc i s)=some (Oz f fin (l.drop i) s):=by
  intro k
  induction k with
  |zero=>
   intro i n hi hn s hs;obtain⟨m,rfl⟩:∃m,n=m+1:=⟨n-1,by omega⟩;have:i=l.length:=(by omega);subst this;rw[fP (hend s hs)];simp[Oz]
  |succ k ih=>
   intro i n hi hn s hs;obtain⟨m,rfl⟩:∃m,n=m+1:=⟨n-1,by omega⟩;have hil:i<l.length:=(by omega);have⟨h1,h2⟩:=h i hil s hs;rw[List.drop_eq_getElem_cons hil];simp[Oz];cases hf:f l[i] s with
   |inl s'=>
    rw[hf]at h1;rw[jP h1];exact ih (i+1) m (by omega) (by omega) s' (h2 s' hf)
   |inr o=>
    rw[hf]at h1;rw[fP h1]
 intro n hn s hs;have:=main l.length 0 n (by omega) hn s hs;simpa using this
theorem ab7{l:Y α}{step:V->J (V⊕O)}(enc:Nat->Φ->V)(f:α->Φ->Φ⊕O)(fin:Φ->O)
 (h:∀i (hi:i<l.length) s,step (enc i s)=some (match f l[i] s with|.inl s'=>.inl (enc (i+1) s')|.inr o=>.inr o))
 (hend:∀s,step (enc l.length s)=some (.inr (fin s))):∀n,l.length<n->∀s,iter step n (enc 0 s)=some (Oz f fin l s):=λn hn s=>
 X6 enc f fin (λ _ _=>True) (λ i hi s _=>⟨h i hi s,λ_ _=>trivial⟩) (λ s _=>hend s) n hn s trivial
theorem X7(g:α->Φ->Φ)(fin:Φ->O):∀(l:Y α)(s:Φ),Oz (λ x s=>.inl (g x s)) fin l s=fin (l.foldl (λ s x=>g x s) s)
 |[],_=>rfl
 |x::xs,s=>by exact X7 g fin xs _
theorem dQ{l:Y α}{step:V->J (V⊕O)}(enc:Nat->Φ->V)(g:α->Φ->Φ)(fin:Φ->O)(Inv:Nat->Φ->Prop)
 (h:∀i (hi:i<l.length) s,Inv i s->step (enc i s)=some (.inl (enc (i+1) (g l[i] s)))/\Inv (i+1) (g l[i] s))
 (hend:∀s,Inv l.length s->step (enc l.length s)=some (.inr (fin s))) (n:Nat) (hn:l.length<n) (s:Φ) (hs:Inv 0 s):iter step n (enc 0 s)=some (fin (l.foldl (λ s x=>g x s) s)):=by rw[X6 enc (λ x s=>.inl (g x s)) fin Inv (λ i hi s hs=>⟨(h i hi s hs).1,λs' hs'=>by injection hs' with hs';subst hs';exact(h i hi s hs).2⟩) hend n hn s hs,X7]
theorem gH{l:Y α}{step:V->J (V⊕O)}(enc:Nat->Φ->V)(g:α->Φ->Φ)(fin:Φ->O)
 (h:∀i (hi:i<l.length) s,step (enc i s)=some (.inl (enc (i+1) (g l[i] s))))
 (hend:∀s,step (enc l.length s)=some (.inr (fin s))) (n:Nat) (hn:l.length<n) (s:Φ):iter step n (enc 0 s)=some (fin (l.foldl (λ s x=>g x s) s)):=
 dQ enc g fin (λ _ _=>True) (λ i hi s _=>⟨h i hi s,trivial⟩) (λ s _=>hend s) n hn s trivial
def nM(p:α->Bool):Y α->J Nat
 |[]=>none
 |x::xs=>bif p x then some 0 else(nM p xs).map (· +1)
theorem Fp(p:α->Bool):∀(l:Y α),(∃ (i:Nat) (h:i<l.length),nM p l=some i/\p l[i]=true/\∀j (hj:j<i),p (l[j]'(by omega))=false)\/(nM p l=none/\∀x∈l,p x=false)
 |[]=>.inr ⟨rfl,by simp⟩
 |x::xs=>by
  cases hx:p x with
  |true=>exact .inl ⟨0,by simp,by simp[nM,hx],by simpa using hx,λj hj=>by omega⟩
  |false=>
   rcases Fp p xs with ⟨i,h,h1,h2,h3⟩|⟨h1,h2⟩;refine .inl ⟨i+1,by simpa using h,by simp[nM,hx,h1],by simpa using h2,λj hj=>?_⟩;cases j with
   |zero=>simpa using hx
   |succ j=>simpa using h3 j (by omega)
   exact .inr ⟨by simp[nM,hx,h1],by simpa[hx]using h2⟩
theorem kI{l:Y α}{step:V->J (V⊕(W⊕O))}(enc:Nat->V)(p:α->Bool)(w:W)(out:Nat->O)
 (h:∀i (hi:i<l.length),step (enc i)=some (bif p l[i]then .inr (.inr (out i))else .inl (enc (i+1))))
 (hend:step (enc l.length)=some (.inr (.inl w))) (n:Nat) (hn:l.length<n):iter step n (enc 0)=some (match nM p l with|some i=>.inr (out i)|none=>.inl w):=by rcases Fp p l with ⟨i,hi,h1,h2,h3⟩|⟨h1,h2⟩;rw[h1];refine fV enc i _ (λ j hj=>?_) ?_ n (by omega);rw[h j (by omega),h3 j hj];rfl;rw[h i hi,h2];rfl;rw[h1];refine fV enc l.length _ (λ j hj=>?_) hend n hn;rw[h j hj,h2 _ (List.getElem_mem hj)];rfl
theorem jW(p:α->Bool)(l:Y α):(nM p l).isSome=l.any p:=by
 induction l with
 |nil=>rfl
 |cons x xs ih=>
  simp[nM];cases p x with
  |true=>rfl
  |false=>simp[ih]
end
section
variable {α:Type}
def nV(lt:α->α->Bool)(x:α):Y α->Y α
 |[]=>[x]
 |y::ys=>bif lt x y then y::nV lt x ys else x::y::ys
def kG(lt:α->α->Bool)(l:Y α):Y α:=(l.foldl (λ rs x=>nV lt x rs) []).reverse
variable {lt:α->α->Bool} {less:α->α->Option Bool}
theorem Md(x:α):∀ys:Y α,(nV lt x ys).length=ys.length+1
 |[]=>rfl
 |y::ys=>by simp[nV];cases lt x y<;>simp[Md x ys]
theorem ML(x z:α):∀ys:Y α,z∈nV lt x ys↔z=x\/z∈ys
 |[]=>by simp[nV]
 |y::ys=>by
  simp[nV];cases lt x y with
  |true=>simp[ML x z ys];exact⟨λ h=>by rcases h with h|h|h<;>simp[h],λh=>by rcases h with h|h|h<;>simp[h]⟩
  |false=>simp
theorem aln(z:α)(l:Y α):z∈kG lt l↔z∈l:=by
 unfold kG;have:∀(l rs:Y α),z∈l.foldl (λ rs x=>nV lt x rs) rs↔z∈l\/z∈rs:=by
  intro l
  induction l with
  |nil=>simp
  |cons x l ih=>intro rs;simp[ih,ML];exact⟨λ h=>by rcases h with h|h|h<;>simp[h],λh=>by rcases h with (h|h)|h<;>simp[h]⟩
 simpa using this l []
theorem cZ(l:Y α):(kG lt l).length=l.length:=by
 unfold kG;have:∀(l rs:Y α),(l.foldl (λ rs x=>nV lt x rs) rs).length=l.length+rs.length:=by
  intro l
  induction l with
  |nil=>simp
  |cons x l ih=>simp[ih,Md];omega
 simpa using this l []
end
theorem Me(x:Int):∀ys:Y Int,ys.Pairwise (· >= ·)->(nV (λ a b=>decide (a<b)) x ys).Pairwise (· >= ·)
 |[],_=>by simp[nV]
 |y::ys,h=>by simp[nV];rw[pairwise_cons]at h;by_cases hxy:x<y;simp[hxy];refine⟨λ z hz=>?_,Me x ys h.2⟩;rcases (ML x z ys).1 hz with rfl|hz;exact Int.le_of_lt hxy;exact h.1 z hz;simp only[hxy,decide_false,au,pairwise_cons,aI];refine⟨λ z hz=>?_,h⟩;rcases hz with rfl|hz;omega;have:=h.1 z hz;omega
theorem adB(l:Y Int):(kG (λ a b=>decide (a<b)) l).Pairwise (· <= ·):=by
 rw[kG,List.pairwise_reverse];have:∀(l rs:Y Int),rs.Pairwise (· >= ·)->(l.foldl (λ rs x=>nV (λ a b=>decide (a<b)) x rs) rs).Pairwise (· >= ·):=by
  intro l
  induction l with
  |nil=>intro rs h;exact h
  |cons x l ih=>intro rs h;exact ih _ (Me x rs h)
 exact this l [] List.Pairwise.nil
def iU:Y Int->Y Int
 |[]=>[]
 |[x]=>[x]
 |x::y::l=>bif x==y then iU (y::l)else x::iU (y::l)
theorem yO:∀(l:Y Int)(z:Int),z∈iU l↔z∈l
 |[],_|[x],_=>by simp[iU]
 |x::y::l,z=>by
  simp[iU];by_cases h:x=y;subst h;simp[yO (x::l) z];have:(x==y)=false:=by simp[h]
  simp[this,yO (y::l) z]
theorem yx:∀(l:Y Int),l.Pairwise (· <= ·)->(iU l).Pairwise (· < ·)
 |[],_=>List.Pairwise.nil
 |[x],_=>by simp[iU]
 |x::y::l,h=>by
  rw[pairwise_cons]at h;simp[iU];by_cases e:x=y;subst e;simp;exact yx (x::l) h.2;have hb:(x==y)=false:=by simp[e]
  simp[hb];refine⟨λ z hz=>?_,yx (y::l) h.2⟩;rw[yO]at hz;have h1:=h.1 y (by simp);rcases aI.1 hz with rfl|hz;omega;have:=(pairwise_cons.1 h.2).1 z hz;omega
def yz(l:Y Int):Y Int:=iU (kG (λ a b=>decide (a<b)) l)
theorem anj(l:Y Int)(z:Int):z∈yz l↔z∈l:=by rw[yz,yO,aln]
theorem afI(l:Y Int):(yz l).Pairwise (· < ·):=yx _ (adB l)
section
variable {α:Type}
def Up(l:Y α)(Z:(α×Unit)->J Bool):Int->J (Int⊕(Unit⊕Int))
 |v1=>(bif (decide (v1<((l.length:Int):Int)))then(bx l v1).bind λx1=>(Z (x1,())).bind λr1=>(bif r1 then(some v1).map λa=>.inr (.inr a)else some (.inl (i64.wrap (v1+1))))else some (.inr (.inl ())))
def xP(n:Nat)(l:Y α)(Z:(α×Unit)->J Bool):J Int:=
 dO (iter (Up l Z) n (0:Int)) λ()=>some ((-1):Int)
def yP(p:α->Bool)(l:Y α):Int:=match nM p l with|some i=>(i:Int)|none=>-1
theorem Gy{n:Nat}{l:Y α}{Z:(α×Unit)->J Bool}(p:α->Bool)(h:∀x∈l,Z (x,())=some (p x))(hl:l.length<=9223372036854775807)(hn:l.length<n):xP n l Z=some (yP p l):=by
 unfold xP;have:=kI (l:=l) (step:=Up l Z) (λ i=>(i:Int)) p () (λ i=>(i:Int)) (λ i hi=>?_) ?_ n hn;rw[show ((0:Nat):Int)=0 from rfl]at this;rw[this];unfold yP;cases nM p l<;>rfl;have hi':decide ((i:Int)<(l.length:Int))=true:=by simpa using hi
 simp only[Up,hi',aj,aO hi,ai,h _ (List.getElem_mem hi)];cases p l[i]with
 |true=>rfl
 |false=>simp only[au];rw[aL (by omega)]
 simp[Up]
theorem fU{n:Nat}{l:Y α}{Z:(α×Unit)->J Bool}(p:α->Bool)(h:∀x∈l,Z (x,())=some (p x))(hl:l.length<1099511627776)(hn:l.length<n):xP n l Z=some (yP p l):=Gy p h (by omega) hn
theorem sS(p:α->Bool)(l:Y α):decide (yP p l>=0)=l.any p:=by rw[yP,<- jW];cases nM p l<;>simp
theorem afJ{p:α->Bool}{l:Y α}(h:l.any p=true):∃(i:Nat)(hi:i<l.length),yP p l=(i:Int)/\l.find? p=some l[i]:=by rcases Fp p l with ⟨i,hi,h1,h2,h3⟩|⟨h1,h2⟩;refine⟨i,hi,by simp[yP,h1],?_⟩;rw[List.find?_eq_some_iff_getElem];exact⟨h2,i,hi,rfl,λj hj=>by simpa using h3 j hj⟩;rw[List.any_eq_true]at h;obtain⟨x,hx,hp⟩:=h;rw[h2 x hx]at hp;cases hp
def Sp(eq:α->Bool)(l:Y α):Int->J (Int⊕(Unit⊕Int))
 |v1=>(bif (decide (v1<((l.length:Int):Int)))then(bx l v1).bind λx1=>(bif eq x1 then(some v1).map λa=>.inr (.inr a)else some (.inl (i64.wrap (v1+1))))else some (.inr (.inl ())))
def adC(n:Nat)(eq:α->Bool)(l:Y α):J Int:=
 dO (iter (Sp eq l) n (0:Int)) λ()=>some ((-1):Int)
theorem Jd{n:Nat}{l:Y α}{eq:α->Bool}(hl:l.length<1099511627776)(hn:l.length<n):adC n eq l=some (yP eq l):=by
 unfold adC;have:=kI (l:=l) (step:=Sp eq l) (λ i=>(i:Int)) eq () (λ i=>(i:Int)) (λ i hi=>?_) ?_ n hn;rw[show ((0:Nat):Int)=0 from rfl]at this;rw[this];unfold yP;cases nM eq l<;>rfl;have hi':decide ((i:Int)<(l.length:Int))=true:=by simpa using hi
 simp only[Sp,hi',aj,aO hi,ai];cases eq l[i]with
 |true=>rfl
 |false=>simp only[au];rw[aL (by omega)]
 simp[Sp]
noncomputable def aj5(b:Nat)(a0:Y α):J (List α):=
 (bif a0.isEmpty then(both (some ([]:(List α))) (bif bF ([]:Y α).length 0 a0.length a0.length b then gU (([]:Y α)++a0) λr1=>bif aE (sub r1 0 r1.length).length r1.length then some (sub r1 0 r1.length)else none else none))else bif bF ([]:Y α).length 0 a0.length a0.length b then gU (([]:Y α)++a0) λr2=>bif aE (sub r2 0 r2.length).length r2.length then some (sub r2 0 r2.length)else none else none)
theorem qH{l:Y α}{b:Nat}(h:l.length*b<=140737488355328)(h2:l.length<=maxLen):aj5 b l=some l:=by
 have:bF ([]:Y α).length 0 l.length l.length b=true:=bV (a:=0) (by simpa using h) (by simpa using h2);unfold aj5;cases l with
 |nil=>simp;exact alf _
 |cons x l=>simp only[this,aj,dV,fI,dP,aH,List.isEmpty_cons,au]
def aip(z:α)(b:Nat)(a1:Int):J (List α):=
 (bif (decide (a1<(0:Int)))then none else(bif (decide ((i64.wrap (a1-(i64.wrap (0-0))))>(0:Int)))then bif qg (i64.wrap (a1-(i64.wrap (0-0)))) b then bif Cc 0 0 ((i64.wrap (a1-(i64.wrap (0-0)))).toNat)then bif aE (sub (List.replicate (i64.wrap (a1-(i64.wrap (0-0)))).toNat z) 0 0).length 0 then some (sub (List.replicate (i64.wrap (a1-(i64.wrap (0-0)))).toNat z) 0 0)else none else none else none else some ([]:(List α))))
theorem aiq(z:α){b n:Nat}(h:n*b<=140737488355328)(hn:n<1099511627776):aip z b (n:Int)=some []:=by
 have w0:i64.wrap (0-0)=0:=by decide
 have w1:i64.wrap ((n:Int)-0)=(n:Int):=by rw[Int.sub_zero];exact Oy (by omega)
 have d:decide ((n:Int)<0)=false:=by simp
 have m:qg (n:Int) b=true:=by
  have h9:n<=maxLen:=by simp[maxLen];omega
  simp[qg,h,h9]
 have s:Cc 0 0 (n:Int).toNat=true:=zo (by omega) (by omega) (by omega);have e:sub (List.replicate (n:Int).toNat z) 0 0=[]:=by simp[sub]
 simp only[aip,w0,w1,d,au,m,aj,s,e];cases decide ((n:Int)>0)<;>rfl
def V2(a0:Y (List α)):(Int×Int)->J ((Int×Int)⊕Int)
 |(v1,v2)=>(bif (decide (v2<((a0.length:Int):Int)))then(bx a0 v2).bind λx1=>(bif (decide ((i64.wrap (v1+(x1.length:Int)))<(0:Int)))then none else some (.inl (i64.wrap (v1+(x1.length:Int)),i64.wrap (v2+1))))else some (.inr v1))
def V1(b:Nat)(a0:Y (List α)):(Int×List α)->J ((Int×List α)⊕List α)
 |(v3,v4)=>(bif (decide (v3<((a0.length:Int):Int)))then(bx a0 v3).bind λx2=>bif bF v4.length v4.length x2.length x2.length b then gU (v4++x2) λr2=>bif aE r2.length r2.length then some (.inl (i64.wrap (v3+1),r2))else none else none else bif aE v4.length v4.length then some (.inr v4)else none)
def afK(z:α)(b n:Nat)(a0:Y (List α)):J (List α):=
 (iter (V2 a0) n ((0:Int),(0:Int))).bind λw1=>(aip z b w1).bind λr1=>bif aE r1.length r1.length then(iter (V1 b a0) n ((0:Int),r1)).bind λw2=>bif aE (sub w2 0 w2.length).length w2.length then some (sub w2 0 w2.length)else none else none
theorem OA(z:α){b n:Nat}{a0:Y (List α)}(hf:a0.flatten.length<1099511627776)(hb:a0.flatten.length*b<=140737488355328)(hl:a0.length<1099511627776)(hn:a0.length<n):afK z b n a0=some a0.flatten:=by
 have pre:∀i,i<=a0.length->(a0.take i).flatten.length<=a0.flatten.length:=λi _=>by
  conv=>rhs;rw[<- List.take_append_drop i a0,List.flatten_append,eU]
  omega
 have step:∀i (hi:i<a0.length),(a0.take (i+1)).flatten=(a0.take i).flatten++a0[i]:=λi hi=>by rw[iY hi,List.flatten_append];simp
 have h1:iter (V2 a0) n ((0:Int),(0:Int))=some (a0.flatten.length:Int):=by
  refine fV (λ i=>(((a0.take i).flatten.length:Int),(i:Int))) a0.length _ (λ i hi=>?_) ?_ n hn;have hi':decide ((i:Int)<(a0.length:Int))=true:=by simpa using hi
  have e1:(((a0.take i).flatten.length:Int)+(a0[i].length:Int))=((a0.take (i+1)).flatten.length:Int):=by rw[step i hi,eU];omega
  have h3:=pre (i+1) (by omega);have e2:i64.wrap ((a0.take (i+1)).flatten.length:Int)=((a0.take (i+1)).flatten.length:Int):=Oy (by omega);have e3:decide (((a0.take (i+1)).flatten.length:Int)<0)=false:=by simp
  simp only[V2,hi',aj,aO hi,ai,e1,e2,e3,au];rw[aL (by omega)];simp[V2]
 have h2:iter (V1 b a0) n ((0:Int),([]:Y α))=some a0.flatten:=by
  refine fV (λ i=>((i:Int),(a0.take i).flatten)) a0.length _ (λ i hi=>?_) ?_ n hn;have hi':decide ((i:Int)<(a0.length:Int))=true:=by simpa using hi
  have h3:=pre (i+1) (by omega);have e1:(a0.take i).flatten.length+a0[i].length=(a0.take (i+1)).flatten.length:=by rw[step i hi,eU]
  have ap:bF (a0.take i).flatten.length (a0.take i).flatten.length a0[i].length a0[i].length b=true:=bV (by rw[e1];exact Nat.le_trans (Nat.mul_le_mul_right _ h3) hb) (by simp only[maxLen];omega);simp only[V1,hi',aj,aO hi,ai,ap,dV,aH,<- step i hi];rw[aL (by omega)];simp[V1]
 simp only[afK,h1,ai,aiq z hb hf,aH,aj,h2,dP]
def Hd(ne:α->α->Bool)(a b:Y α):Int->J (Int⊕(Unit⊕Bool))
 |v1=>(bif (decide (v1<((a.length:Int):Int)))then(bx a v1).bind λx1=>(bx b v1).bind λx2=>(bif ne x1 x2 then(some false).map λa=>.inr (.inr a)else some (.inl (i64.wrap (v1+1))))else some (.inr (.inl ())))
def OC(n:Nat)(ne:α->α->Bool)(a b:Y α):J Bool:=
 (bif ((a.length:Int) !=((b.length:Int):Int))then some false else dO (iter (Hd ne a b) n (0:Int)) λ()=>some true)
theorem Je[DecidableEq α]{n:Nat}{ne:α->α->Bool}{a b:Y α}(h:∀x y,ne x y=!decide (x=y))(hl:a.length<1099511627776)(hn:a.length<n):OC n ne a b=some (decide (a=b)):=by
 unfold OC;by_cases hlen:a.length=b.length;have h0:((a.length:Int) !=(b.length:Int))=false:=by simp[hlen]
 by_cases he:a=b;subst he;have:=fV (step:=Hd ne a a) (λ i=>(i:Int)) a.length (.inl ()) (λ i hi=>?_) ?_ n hn;rw[show ((0:Nat):Int)=0 from rfl]at this;rw[this];simp;have hi':decide ((i:Int)<(a.length:Int))=true:=by simpa using hi
 simp only[Hd,hi',aj,aO hi,ai,h,decide_true,Bool.not_true,au];rw[aL (by omega)];simp[Hd];have hp:∃i,∃(h1:i<a.length)(h2:i<b.length),a[i]≠b[i]/\∀j (hj:j<i),a[j]'(by omega)=b[j]'(by omega):=by
  have hex:∃i,∃(h1:i<a.length)(h2:i<b.length),a[i]≠b[i]:=by refine wu λhc=>he ?_;refine List.ext_getElem hlen λi h1 h2=>?_;exact wu λhne=>hc ⟨i,h1,h2,hne⟩
  have hmin:∀k,(∃ i,i<=k/\∃(h1:i<a.length)(h2:i<b.length),a[i]≠b[i])->∃i,∃(h1:i<a.length)(h2:i<b.length),a[i]≠b[i]/\∀j (hj:j<i),a[j]'(by omega)=b[j]'(by omega):=by
   intro k
   induction k with
   |zero=>
    rintro⟨i,hi,h1,h2,h3⟩;have:i=0:=(by omega);subst this;exact⟨0,h1,h2,h3,λj hj=>by omega⟩
   |succ k ih=>
    rintro⟨i,hi,h1,h2,h3⟩;by_cases hs:∃i,i<=k/\∃(h1:i<a.length)(h2:i<b.length),a[i]≠b[i];exact ih hs;refine⟨i,h1,h2,h3,λj hj=>?_⟩;exact wu λhne=>hs ⟨j,by omega,by omega,by omega,hne⟩
  obtain⟨i,h1,h2,h3⟩:=hex;exact hmin i ⟨i,aB i,h1,h2,h3⟩
 obtain⟨i,h1,h2,h3,h4⟩:=hp;have:=fV (step:=Hd ne a b) (λ i=>(i:Int)) i (.inr false) (λ j hj=>?_) ?_ n (by omega);rw[show ((0:Nat):Int)=0 from rfl]at this;rw[this];simp[he];have hj':decide ((j:Int)<(a.length:Int))=true:=by simp;omega
 simp only[Hd,hj',aj,aO (show j<a.length by omega),aO (show j<b.length by omega),ai,h,h4 j hj,decide_true,Bool.not_true,au];rw[aL (by omega)];have hi':decide ((i:Int)<(a.length:Int))=true:=by simpa using h1
 simp only[Hd,hi',aj,aO h1,aO h2,ai,h,h3,decide_false,Bool.not_false,Option.map_some];have h0:((a.length:Int) !=(b.length:Int))=true:=by simp;omega
 rw[h0];have:a≠b:=λe=>hlen (by rw[e]);simp[this]
end
theorem Mf(p:Nat->Bool)(a b:Nat):(∃ i,a<=i/\i<b/\p i=true/\∀j,a<=j->j<i->p j=false)\/∀j,a<=j->j<b->p j=false:=by
 by_cases hab:a<=b;obtain⟨k,rfl⟩:∃k,b=a+k:=⟨b-a,by omega⟩;clear hab
 induction k with
 |zero=>exact .inr λj h1 h2=>by omega
 |succ k ih=>
  rcases ih with ⟨i,h1,h2,h3,h4⟩|h;exact .inl ⟨i,h1,by omega,h3,h4⟩;cases hp:p (a+k)with
  |true=>exact .inl ⟨a+k,by omega,by omega,hp,λj h1 h2=>h j h1 h2⟩
  |false=>
   refine .inr λj h1 h2=>?_;by_cases e:j=a+k;subst e;exact hp;exact h j h1 (by omega)
 exact .inr λj h1 h2=>by omega
section
variable {α:Type}
def X8(ne:α->α->Bool)(a0:Y α)(v1:Int):(Int×Int×List α)->J ((Int×Int×List α)⊕(Int×List α))
 |(v2,v3,v4)=>(bif (decide (v3<((((a0.length-(v1:Int).toNat):Nat):Int):Int)))then(bif cV v3 (a0.length-(v1:Int).toNat)then(bx v4 (((0+(v1:Int).toNat):Nat)+v3:Int)).bind λx3=>bif cV (i64.wrap (v3-1)) (a0.length-(v1:Int).toNat)then(bx v4 (((0+(v1:Int).toNat):Nat)+(i64.wrap (v3-1)):Int)).bind λx4=>(bif ne x3 x4 then bif cV v3 (a0.length-(v1:Int).toNat)then(bx v4 (((0+(v1:Int).toNat):Nat)+v3:Int)).bind λx5=>bif cV v2 a0.length then(bx v4 ((0:Nat)+v2:Int)).bind λ_=>some (i64.wrap (v2+1),v4.set ((0:Nat)+v2:Int).toNat x5)else none else none else some (v2,v4))else none else none:J (Int×(List α))).bind λ(v5,v6)=>some (.inl (v5,i64.wrap (v3+1),v6))else some (.inr (v2,v4)))
def Jf(eq ne:α->α->Bool)(n:Nat)(a0:Y α):Int->J (Int⊕(Unit⊕(Unit×List α)))
 |v1=>(bif (decide (v1<((a0.length:Int):Int)))then bif cV v1 a0.length then(bx a0 ((0:Nat)+v1:Int)).bind λx1=>bif cV (i64.wrap (v1-1)) a0.length then(bx a0 ((0:Nat)+(i64.wrap (v1-1)):Int)).bind λx2=>(bif eq x1 x2 then bif Cc v1 (a0.length:Int) a0.length then(iter (X8 ne a0 v1) n (v1,(1:Int),a0)).bind λ(w1,w2)=>bif Cc w1 (a0.length:Int) a0.length then bif Cc 0 w1 a0.length then(bif aE ((w1:Int).toNat) ((w1:Int).toNat)then bif aE (sub (w2.take (0+(w1:Int).toNat)) 0 ((w1:Int).toNat)).length ((w1:Int).toNat)then some ((),sub (w2.take (0+(w1:Int).toNat)) 0 ((w1:Int).toNat))else none else none).map λa=>.inr (.inr a)else none else none else none else some (.inl (i64.wrap (v1+1))))else none else none else some (.inr (.inl ())))
def ab8(eq ne:α->α->Bool)(n:Nat)(a0:Y α):J (Unit×List α):=
 (bif (decide ((a0.length:Int)<(2:Int)))then bif aE a0.length a0.length then bif aE (sub a0 0 a0.length).length a0.length then some ((),sub a0 0 a0.length)else none else none else dO (iter (Jf eq ne n a0) n (1:Int)) λ()=>bif aE a0.length a0.length then bif aE (sub a0 0 a0.length).length a0.length then some ((),sub a0 0 a0.length)else none else none)
def uL(ne:α->α->Bool)(s:α×List α)(x:α):α×List α:=(x,bif ne x s.1 then s.2++[x]else s.2)
def C0(ne:α->α->Bool):Y α->Y α
 |[]=>[]
 |x::xs=>x::(xs.foldl (uL ne) (x,[])).2
theorem X9(ne:α->α->Bool)(xs:Y α)(x:α)(K:Y α):xs.foldl (uL ne) (x,K)=((xs.foldl (uL ne) (x,[])).1,K++(xs.foldl (uL ne) (x,[])).2):=by
 induction xs generalizing x K with
 |nil=>simp
 |cons y xs ih=>
  simp[uL];cases ne y x with
  |true=>simp;rw[ih y (K++[y]),ih y [y]];simp
  |false=>simp;rw[ih y K]
theorem Q9(ne:α->α->Bool):∀(xs:Y α)(x:α),(∀ i (h:i+1<(x::xs).length),ne ((x::xs)[i+1]) ((x::xs)[i])=true)->xs.foldl (uL ne) (x,[])=((x::xs).getLast (by simp),xs)
 |[],x,_=>rfl
 |y::xs,x,h=>by have h0:=h 0 (by simp);simp at h0;simp[uL,h0];rw[X9,Q9 ne xs y (λ i hi=>h (i+1) (by simp at hi |-;omega))];simp
theorem aav{eq ne:α->α->Bool}(hen:∀x y,eq x y=!ne x y){n:Nat}{l:Y α}(hl:l.length<1099511627776)(hn:l.length<n):ab8 eq ne n l=some ((),C0 ne l):=by
 unfold ab8;by_cases h2:l.length<2;have d:decide ((l.length:Int)<2)=true:=by simp;omega
 simp only[d,aj,aH,dP]
 match l,h2 with
 |[],_=>rfl
 |[x],_=>rfl
 |x::y::l,h2=>exact absurd h2 (by simp)
 have d:decide ((l.length:Int)<2)=false:=by simp;omega
 simp only[d,au,aH,aj,dP];obtain⟨x0,xs,rfl⟩:∃x xs,l=x::xs:=by
  cases l with
  |nil=>simp at h2
  |cons x xs=>exact⟨x,xs,rfl⟩
 generalize hL:(x0::xs)=l at*;have step1:∀(i:Nat)(hi:i<l.length)(h1:1<=i),eq (l[i]) (l[i-1]'(by omega))=false->Jf eq ne n l (i:Int)=some (.inl ((i+1:Nat):Int)):=λi hi h1 he=>by
  have d1:decide ((i:Int)<(l.length:Int))=true:=by simpa using hi
  simp only[Jf,d1,aj,aV hi,bJ hi,ai];rw[nU (by omega) (by omega)];simp only[aV (show i-1<l.length by omega),aj,bJ (show i-1<l.length by omega),ai,he,au];rw[aL (by omega)]
 rcases Mf (λ i=>if h:i<l.length then eq (l[i]) (l[i-1]'(by omega))else false) 1 l.length with ⟨i,h1,hi,hp,hq⟩|hnone;simp only[hi,dite_true]at hp;have hq':∀j (hj1:1<=j) (hj:j<i),eq (l[j]'(by omega)) (l[j-1]'(by omega))=false:=λj hj1 hj=>by have:=hq j hj1 hj;simpa only[show j<l.length by omega,dite_true]using this
 have hK:∀s:α×List α,((l.drop (i+1)).foldl (uL ne) s).2.length<=s.2.length+(l.length-(i+1)):=by
  have:∀(ys:Y α)(s:α×List α),(ys.foldl (uL ne) s).2.length<=s.2.length+ys.length:=by
   intro ys
   induction ys with
   |nil=>intro s;simp
   |cons y ys ih=>
    intro s;simp only[List.foldl_cons,d9];refine Nat.le_trans (ih _) ?_;simp only[uL];cases ne y s.1<;>simp<;>omega
  intro s;have:=this (l.drop (i+1)) s
  rwa [length_drop]at this
 have hin:iter (X8 ne l (i:Int)) n ((i:Int),(1:Int),l)=some (((i+((l.drop (i+1)).foldl (uL ne) (l[i],[])).2.length:Nat):Int),l.take i++((l.drop (i+1)).foldl (uL ne) (l[i],[])).2++l.drop (i+((l.drop (i+1)).foldl (uL ne) (l[i],[])).2.length)):=by
  have:=dQ (l:=l.drop (i+1)) (step:=X8 ne l (i:Int)) (λ j (s:α×List α)=>(((i+s.2.length:Nat):Int),((j+1:Nat):Int),l.take i++s.2++l.drop (i+s.2.length))) (λ x s=>uL ne s x) (λ s=>(((i+s.2.length:Nat):Int),l.take i++s.2++l.drop (i+s.2.length)))
   (λ j s=>s.2.length<=j/\l[i+j]? =some s.1) (λ j hj s hs=>?_) (λ s hs=>?_) n (by rw[length_drop];omega) (l[i],[]) ⟨aB 0,by simp[hi]⟩
  simpa using this;obtain⟨s1,s2⟩:=hs;rw[length_drop]at hj;have hx:(l.drop (i+1))[j]'(by rw[length_drop];omega)=l[i+1+j]'(by omega):=by rw[List.getElem_drop]
  have gv:∀k,s.2.length<=k->(l.take i++s.2++l.drop (i+s.2.length))[i+k]? =l[i+k]? :=λk hk=>by rw[qj (by simp[length_take];omega),List.getElem?_drop];congr 1;simp only[eU,length_take];omega
  have tn:(i:Int).toNat=i:=by simp
  have d1:decide (((j+1:Nat):Int)<(((l.length-i:Nat)):Int))=true:=by simp;omega
  have a1:bx (l.take i++s.2++l.drop (i+s.2.length)) (((0+i:Nat):Int)+((j+1:Nat):Int))=some (l[i+1+j]'(by omega)):=by rw[show (((0+i:Nat):Int)+((j+1:Nat):Int))=((i+(j+1):Nat):Int)by omega,Fh,gv (j+1) (by omega),show i+(j+1)=i+1+j by omega];exact dI (by omega)
  have a2:bx (l.take i++s.2++l.drop (i+s.2.length)) (((0+i:Nat):Int)+(j:Int))=some s.1:=by rw[show (((0+i:Nat):Int)+(j:Int))=((i+j:Nat):Int)by omega,Fh,gv j s1,s2]
  have wp:i64.wrap (((j+1:Nat):Int)-1)=(j:Int):=by rw[nU (by omega) (by omega)];rfl
  refine⟨?_,?_,?_⟩;simp only[X8,tn,d1,aj,aV (show j+1<l.length-i by omega),a1,ai,wp,aV (show j<l.length-i by omega),a2,hx,uL];cases hne:ne (l[i+1+j]'(by omega)) s.1 with
  |false=>simp only[au,ai];rw[aL (by omega)]
  |true=>
   have g2:bx (l.take i++s.2++l.drop (i+s.2.length)) (((0:Nat):Int)+((i+s.2.length:Nat):Int))=some (l[i+s.2.length]'(by omega)):=(by rw[Fj,gv s.2.length (aB _)];exact dI (by omega));have z:(((0:Nat):Int)+((i+s.2.length:Nat):Int)).toNat=i+s.2.length:=(by omega);have st:(l.take i++s.2++l.drop (i+s.2.length)).set (i+s.2.length) (l[i+1+j]'(by omega))=l.take i++(s.2++[l[i+1+j]'(by omega)])++l.drop (i+(s.2++[l[i+1+j]'(by omega)]).length):=(by rw[List.set_append_right _ _ (by simp[length_take];omega)];have e0:i+s.2.length-(l.take i++s.2).length=0:=(by simp[length_take];omega);rw[e0,List.drop_eq_getElem_cons (show i+s.2.length<l.length by omega)];simp only[List.set_cons_zero,eU,List.length_singleton,aU,List.singleton_append];rfl);simp only[aj,aV (show i+s.2.length<l.length by omega),g2,ai,z,st];rw[aL (by omega),aL (by omega),eU,List.length_singleton];rfl
  simp only[uL];cases ne _ s.1<;>simp<;>omega;simp only[uL];rw[show i+(j+1)=i+1+j by omega,hx];exact dI (by omega);obtain⟨s1,s2⟩:=hs;rw[length_drop]at s1 |-;have tn:(i:Int).toNat=i:=by simp
  have d1:decide (((l.length-(i+1)+1:Nat):Int)<(((l.length-i:Nat)):Int))=false:=by simp;omega
  simp only[X8,tn,d1,au]
 have hfin:Jf eq ne n l (i:Int)=some (.inr (.inr ((),C0 ne l))):=by
  have d1:decide ((i:Int)<(l.length:Int))=true:=by simpa using hi
  simp only[Jf,d1,aj,aV hi,bJ hi,ai];rw[nU (by omega) (by omega)];simp only[aV (show i-1<l.length by omega),aj,bJ (show i-1<l.length by omega),ai,hp];have s0:Cc (i:Int) (l.length:Int) l.length=true:=zo (by omega) (by omega) (by omega);have hk:=hK (l[i],[]);simp only[List.length_nil,Nat.zero_add]at hk;have res:l.take i++((l.drop (i+1)).foldl (uL ne) (l[i],[])).2=C0 ne l:=by
   have hd:ne (l[i]) (l[i-1]'(by omega))=false:=(by have:=hen (l[i]) (l[i-1]'(by omega));rw[hp]at this;simpa using this.symm);subst hL;obtain⟨m,rfl⟩:∃m,i=m+1:=⟨i-1,by omega⟩;have hm:m<xs.length:=(by simp at hi;omega);have e1:xs=xs.take m++xs[m]::xs.drop (m+1):=(by rw[<- List.drop_eq_getElem_cons hm,List.take_append_drop]);have e2:(xs.take m).foldl (uL ne) (x0,[])=((x0::xs.take m).getLast (by simp),xs.take m):=by
    refine Q9 ne _ x0 λk hk=>?_;simp only[d9,length_take]at hk;have h9:=hq' (k+1) (by omega) (by omega);rw[hen]at h9;have:ne ((x0::xs)[k+1]'(by simp;omega)) ((x0::xs)[k]'(by simp;omega))=true:=(by simpa using h9);have t:∀q (hq:q<(x0::xs.take m).length),(x0::xs.take m)[q]=(x0::xs)[q]'(by simp[length_take]at hq |-;omega):=λq hq=>by
     cases q with
     |zero=>rfl
     |succ q=>simp
    rw[t,t];exact this
   have Lt:(x0::xs.take m).getLast (by simp)=(x0::xs)[m+1-1]'(by simp;omega):=by
    rw[List.getLast_eq_getElem];simp only[d9,length_take,Nat.add_sub_cancel];have:min m xs.length=m:=Nat.min_eq_left (by omega);cases m with
    |zero=>simp
    |succ m=>simp[this]
   simp only[List.getElem_cons_succ,List.drop_succ_cons,List.take_succ_cons,List.cons_append,C0,List.cons.injEq,true_and]
   conv=>rhs;rw[e1,List.foldl_append,e2]
   simp only[List.foldl_cons,uL];rw[Lt];simp only[List.getElem_cons_succ]at hd;rw[hd,au,X9 ne (List.drop (m+1) xs) xs[m] (List.take m xs)]
  have tl:(l.take i++((l.drop (i+1)).foldl (uL ne) (l[i],[])).2).length=i+((l.drop (i+1)).foldl (uL ne) (l[i],[])).2.length:=by rw[eU,length_take,Nat.min_eq_left (by omega)]
  simp only[s0,aj,hin,ai];have s1:Cc ((i+((l.drop (i+1)).foldl (uL ne) (l[i],[])).2.length:Nat):Int) (l.length:Int) l.length=true:=zo (by omega) (by omega) (by omega);have s2:Cc 0 ((i+((l.drop (i+1)).foldl (uL ne) (l[i],[])).2.length:Nat):Int) l.length=true:=zo (by omega) (by omega) (by omega);have tk:(l.take i++((l.drop (i+1)).foldl (uL ne) (l[i],[])).2++l.drop (i+((l.drop (i+1)).foldl (uL ne) (l[i],[])).2.length)).take (i+((l.drop (i+1)).foldl (uL ne) (l[i],[])).2.length)=l.take i++((l.drop (i+1)).foldl (uL ne) (l[i],[])).2:=by rw[List.take_append_of_le_length (by rw[tl];exact aB _),<- tl,List.take_length]
  simp only[s1,s2,aj,Int.toNat_natCast,aH,Nat.zero_add,tk];rw[<- tl,dP,aH,aj,res];rfl
 have:=fV (step:=Jf eq ne n l) (λ k=>((k+1:Nat):Int)) (i-1) (.inr ((),C0 ne l)) (λ k hk=>?_) ?_ n (by omega);rw[show ((0+1:Nat):Int)=1 from rfl]at this;rw[this];rfl;exact step1 (k+1) (by omega) (by omega) (hq' (k+1) (by omega) (by omega));rw[show i-1+1=i by omega];exact hfin;have hnone':∀j (hj1:1<=j) (hj:j<l.length),eq (l[j]) (l[j-1]'(by omega))=false:=λj hj1 hj=>by have:=hnone j hj1 hj;simpa[hj,dite_true]using this
 have:=fV (step:=Jf eq ne n l) (λ k=>((k+1:Nat):Int)) (l.length-1) (.inl ()) (λ k hk=>?_) ?_ n (by omega);rw[show ((0+1:Nat):Int)=1 from rfl]at this;rw[this];simp[gG];subst hL;simp[C0];rw[Q9 ne xs x0 λk hk=>?_];have h9:=hnone' (k+1) (by omega) hk;rw[hen]at h9;simp[Nat.add_sub_cancel]at h9;simpa using h9;exact step1 (k+1) (by omega) (by omega) (hnone' (k+1) (by omega) (by omega));rw[show l.length-1+1=l.length by omega];simp[Jf]
end
theorem afM(l:Y Int):C0 (λ x y=>x !=y) l=iU l:=by
 match l with
 |[]|[x]=>rfl
 |x::y::l=>
  have ih:=afM (y::l);simp[C0,uL,iU]at ih |-;by_cases h:y=x;subst h;simp;exact ih;have h1:(y !=x)=true:=by simp[h]
  have h2:(x==y)=false:=by simp[Ne.symm h]
  simp[h1,h2];rw[X9,<- ih];simp
open Go.Sort Go.RowKit
theorem asq{i j:Nat}(h:i+j<=9223372036854775807):i64.wrap ((i:Int)+(j:Int))=((i+j:Nat):Int):=by rw[bP (by omega) (by omega)];omega
theorem ab9{x:Nat}(h:x<18446744073709551616):IntKind.u64.wrap (x:Int)=(x:Int):=by simp[IntKind.wrap,IntKind.bits,IntKind.signed];omega
section
variable {α:Type} [Inhabited α] {lt:α->α->Bool}
def iP(lt:α->α->Bool)(l:Y α):Y α:=(Go.Sort.sort lt l.toArray).toList
theorem MN(hS:SWO lt)(l:Y α):(iP lt l).Perm l:=by
 obtain⟨h1,_⟩:=sort_sorts lt hS l.toArray;obtain⟨hs,_,hp⟩:=h1;have e1:((Go.Sort.sort lt l.toArray).extract 0 l.toArray.size).toList=(Go.Sort.sort lt l.toArray).toList:=by rw[<- hs];simp
 have e2:(l.toArray.extract 0 l.toArray.size).toList=l:=by simp
 rw[e1,e2]at hp;exact hp
theorem OD(hS:SWO lt)(l:Y α):(iP lt l).Pairwise λx y=>lt y x=false:=by obtain⟨h1,h2⟩:=sort_sorts lt hS l.toArray;have hs:=h1.1;rw[iP,List.pairwise_iff_getElem];intro i j hi hj hij;simp at hi hj;have:=h2 i j (Nat.zero_le _) hij (by omega);rw[getElem!_pos _ j hj,getElem!_pos _ i hi]at this;simpa using this
theorem Fq(hS:SWO lt)(l:Y α):(iP lt l).length=l.length:=(MN hS l).length_eq
end
section
variable {α:Type} [Inhabited α] (lt:α->α->Bool)
def arI(a b:Nat)(wb wp:Bool)(l:Nat)(d3:Array α)(pv:Nat):Array α:=
 if (a>0&&!lt d3[a-1]! d3[pv]!)=true then
  if a<(partitionEqual lt d3 a b pv).1/\(partitionEqual lt d3 a b pv).1<=b then pdq lt (partitionEqual lt d3 a b pv).2 (partitionEqual lt d3 a b pv).1 b l wb wp else(partitionEqual lt d3 a b pv).2
 else if a<=(partition lt d3 a b pv).1/\(partition lt d3 a b pv).1<b then
  if (partition lt d3 a b pv).1-a<b-(partition lt d3 a b pv).1 then
   pdq lt (pdq lt (partition lt d3 a b pv).2.2 a (partition lt d3 a b pv).1 l true true) ((partition lt d3 a b pv).1+1) b l (decide ((partition lt d3 a b pv).1-a>=(b-a)/8)) (partition lt d3 a b pv).2.1
  else pdq lt (pdq lt (partition lt d3 a b pv).2.2 ((partition lt d3 a b pv).1+1) b l true true) a (partition lt d3 a b pv).1 l (decide (b-(partition lt d3 a b pv).1>=(b-a)/8)) (partition lt d3 a b pv).2.1
 else(partition lt d3 a b pv).2.2
def arJ(a b:Nat)(wb wp:Bool)(l:Nat)(d2:Array α)(pv:Nat)(hint:Hint):Array α:=
 let pi:=if (wb&&wp&&decide (hint=.increasing))=true then partialInsertionSort lt d2 a b else(d2,false)
 if pi.2=true then pi.1 else arI lt a b wb wp l pi.1 pv
def arK(a b:Nat)(wb wp:Bool)(l:Nat)(d1:Array α):Array α:=
 let c:=choosePivot lt d1 a b
 arJ lt a b wb wp l (if c.2=.decreasing then reverseRange d1 a b else d1) (if c.2=.decreasing then(b-1)-(c.1-a)else c.1) (if c.2=.decreasing then .increasing else c.2)
theorem pdq_eq(d:Array α)(a b l:Nat)(wb wp:Bool):pdq lt d a b l wb wp=if b-a<=12 then insertionSort lt d a b else if l=0 then heapSort lt d a b else arK lt a b wb wp (if (!wb)=true then l-1 else l) (if (!wb)=true then breakPatterns d a b else d):=by rw[pdq];rfl
end
section
variable {α G:Type} [Inhabited α] [Inhabited G] {f:α->G} (hf:f default=default) (lt:G->G->Bool)
include hf
theorem qX(d:Array α)(i:Nat):(d.map f)[i]! =f d[i]! :=by by_cases h:i<d.size;rw[getElem!_pos _ i (by simpa using h),getElem!_pos d i h];simp;rw[getElem!_neg _ i (by simpa using h),getElem!_neg d i h,hf]
theorem sU(d:Array α)(i j:Nat):swp (d.map f) i j=(swp d i j).map f:=by simp[swp,qX hf]
theorem OE(a:Nat):∀(j:Nat)(d:Array α),insInner lt a j (d.map f)=(insInner (λ x y=>lt (f x) (f y)) a j d).map f
 | 0,d=>rfl
 |j+1,d=>by simp[insInner,qX hf,sU hf];split;exact OE a j _;rfl
theorem OG(a b i:Nat)(d:Array α):insOuter lt a b i (d.map f)=(insOuter (λ x y=>lt (f x) (f y)) a b i d).map f:=by
 rw[insOuter]
 conv=>rhs;rw[insOuter]
 split;rw[OE hf];exact OG a b (i+1) _;rfl
termination_by b-i
theorem yQ(hi first ao:Nat)(d:Array α):siftDown lt hi first ao (d.map f)=(siftDown (λ x y=>lt (f x) (f y)) hi first ao d).map f:=by
 rw[siftDown]
 conv=>rhs;rw[siftDown]
 simp[qX hf,sU hf];split;rfl;split;split;rfl;split;exact yQ hi first _ _
 rfl;split;rfl;exact yQ hi first _ _
termination_by hi-ao
theorem Mg(hi first:Nat):∀(k:Nat)(d:Array α),heapBuild lt hi first k (d.map f)=(heapBuild (λ x y=>lt (f x) (f y)) hi first k d).map f
 | 0,d=>rfl
 |k+1,d=>by simp[heapBuild,yQ hf];exact Mg hi first k _
theorem TN(first:Nat):∀(k:Nat)(d:Array α),heapPop lt first k (d.map f)=(heapPop (λ x y=>lt (f x) (f y)) first k d).map f
 | 0,d=>rfl
 |k+1,d=>by simp[heapPop,sU hf,yQ hf];exact TN first k _
theorem Fs(p:G->Bool)(d:Array α)(j i:Nat):scanUp p (d.map f) j i=scanUp (λ x=>p (f x)) d j i:=by
 rw[scanUp]
 conv=>rhs;rw[scanUp]
 simp[qX hf];split;exact Fs p d j (i+1);rfl
termination_by j+1-i
decreasing_by omega
theorem yR(p:G->Bool)(d:Array α)(i:Nat):∀j,scanDown p (d.map f) i j=scanDown (λ x=>p (f x)) d i j
 | 0=>rfl
 |j+1=>by simp[scanDown,qX hf];split;exact yR p d i j;rfl
theorem OH(a i j:Nat)(d:Array α):partLoop lt a i j (d.map f)=((partLoop (λ x y=>lt (f x) (f y)) a i j d).1,(partLoop (λ x y=>lt (f x) (f y)) a i j d).2.map f):=by
 rw[partLoop]
 conv=>rhs;rw[partLoop]
 simp[qX hf,sU hf,Fs hf,yR hf];split;rfl;split;exact OH a _ _ _;rfl
termination_by j+1-i
theorem Jg(a i j:Nat)(d:Array α):partEqLoop lt a i j (d.map f)=((partEqLoop (λ x y=>lt (f x) (f y)) a i j d).1,(partEqLoop (λ x y=>lt (f x) (f y)) a i j d).2.map f):=by
 rw[partEqLoop]
 conv=>rhs;rw[partEqLoop]
 simp[qX hf,sU hf,Fs hf,yR hf];split;rfl;split;exact Jg a _ _ _;rfl
termination_by j+1-i
theorem Jh(d:Array α)(b i:Nat):scanSorted lt (d.map f) b i=scanSorted (λ x y=>lt (f x) (f y)) d b i:=by
 rw[scanSorted]
 conv=>rhs;rw[scanSorted]
 simp only[qX hf];split;exact Jh d b (i+1);rfl
termination_by b-i
decreasing_by simp_all;omega
theorem Mh:∀(j:Nat)(d:Array α),shiftDown lt j (d.map f)=(shiftDown (λ x y=>lt (f x) (f y)) j d).map f
 | 0,d=>rfl
 |j+1,d=>by simp[shiftDown,qX hf,sU hf];split;rfl;exact Mh j _
theorem TP(b j:Nat)(d:Array α):shiftUp lt b j (d.map f)=(shiftUp (λ x y=>lt (f x) (f y)) b j d).map f:=by
 rw[shiftUp]
 conv=>rhs;rw[shiftUp]
 simp[qX hf,sU hf];split;split;rfl;exact TP b (j+1) _;rfl
termination_by b-j
theorem Ji(a b:Nat):∀(s i:Nat)(d:Array α),partialIns lt a b s i (d.map f)=((partialIns (λ x y=>lt (f x) (f y)) a b s i d).1.map f,(partialIns (λ x y=>lt (f x) (f y)) a b s i d).2)
 | 0,i,d=>rfl
 |s+1,i,d=>by
  simp[partialIns,Jh hf,sU hf,Mh hf];split;rfl;split;rfl;have e:∀(c:Prop) [Decidable c] (x y:Array α),(if c then x.map f else y.map f)=(if c then x else y).map f:=λc _ x y=>by split<;>rfl
  simp[e,TP hf];exact Ji a b s _ _
theorem ais(d:Array α)(a b s:Nat):order2 lt (d.map f) a b s=order2 (λ x y=>lt (f x) (f y)) d a b s:=by simp[order2,qX hf]
theorem ait(d:Array α)(a b c s:Nat):median lt (d.map f) a b c s=median (λ x y=>lt (f x) (f y)) d a b c s:=by simp[median,ais hf]
theorem Us(d:Array α)(a b:Nat):choosePivot lt (d.map f) a b=choosePivot (λ x y=>lt (f x) (f y)) d a b:=by simp only[choosePivot,medianAdjacent,ait hf];rfl
theorem Gz(i j:Nat)(d:Array α):reverseLoop i j (d.map f)=(reverseLoop i j d).map f:=by
 rw[reverseLoop]
 conv=>rhs;rw[reverseLoop]
 simp[sU hf];split;exact Gz _ _ _;rfl
termination_by j-i
theorem OI(d:Array α)(a b:Nat):breakPatterns (d.map f) a b=(breakPatterns d a b).map f:=by simp[breakPatterns,breakStep,sU hf];split<;>rfl
omit hf [Inhabited α] [Inhabited G]in
theorem aj6(c:Prop)[Decidable c](x y:Array α):(if c then x.map f else y.map f)=(if c then x else y).map f:=by split<;>rfl
theorem afN(d:Array α)(a b:Nat):partialInsertionSort lt (d.map f) a b=((partialInsertionSort (λ x y=>lt (f x) (f y)) d a b).1.map f,(partialInsertionSort (λ x y=>lt (f x) (f y)) d a b).2):=by simp[partialInsertionSort,Ji hf]
theorem MO(d:Array α)(a b p:Nat):partitionEqual lt (d.map f) a b p=((partitionEqual (λ x y=>lt (f x) (f y)) d a b p).1,(partitionEqual (λ x y=>lt (f x) (f y)) d a b p).2.map f):=by simp[partitionEqual,sU hf,Jg hf]
theorem aaw(d:Array α)(a b p:Nat):partition lt (d.map f) a b p=((partition (λ x y=>lt (f x) (f y)) d a b p).1,(partition (λ x y=>lt (f x) (f y)) d a b p).2.1,(partition (λ x y=>lt (f x) (f y)) d a b p).2.2.map f):=by simp[partition,sU hf,qX hf,Fs hf,yR hf,OH hf];split<;>rfl
theorem Kw(d:Array α)(a b l:Nat)(wb wp:Bool):pdq lt (d.map f) a b l wb wp=(pdq (λ x y=>lt (f x) (f y)) d a b l wb wp).map f:=by
 rw[pdq_eq]
 conv=>rhs;rw[pdq_eq]
 split;simp[insertionSort,OG hf];split;simp[heapSort,Mg hf,TN hf];rw[OI hf,aj6];generalize (if (!wb)=true then breakPatterns d a b else d)=d1;simp[arK,Us hf];generalize choosePivot (λ x y=>lt (f x) (f y)) d1 a b=c;rw[show reverseRange (d1.map f) a b=(reverseRange d1 a b).map f from Gz hf _ _ _,aj6];generalize (if c.2=Hint.decreasing then reverseRange d1 a b else d1)=d2;generalize (if c.2=Hint.decreasing then(b-1)-(c.1-a)else c.1)=pv;generalize (if c.2=Hint.decreasing then Hint.increasing else c.2)=hint;simp only[arJ,afN hf];generalize hq:partialInsertionSort (λ x y=>lt (f x) (f y)) d2 a b=q;have hpi:(if (wb&&wp&&decide (hint=.increasing))=true then(q.1.map f,q.2)else(d2.map f,false))=(((if (wb&&wp&&decide (hint=.increasing))=true then q else(d2,false)).1).map f,(if (wb&&wp&&decide (hint=.increasing))=true then q else(d2,false)).2):=by split<;>rfl
 rw[hpi];generalize (if (wb&&wp&&decide (hint=.increasing))=true then q else(d2,false))=pi;split;rfl;simp[arI,qX hf,MO hf,aaw hf];split;split;exact Kw _ _ _ _ _ _;rfl;split;split;rw[Kw _ _ _ _ _ _,Kw _ _ _ _ _ _];rw[Kw _ _ _ _ _ _,Kw _ _ _ _ _ _];rfl
termination_by b-a
decreasing_by all_goals omega
theorem afO(l:Y α):iP lt (l.map f)=(iP (λ x y=>lt (f x) (f y)) l).map f:=by unfold iP sort;rw[<- List.map_toArray,Kw hf];simp
end
abbrev px(a b:Int):Bool:=decide (a<b)
theorem apl:Go.Sort.SWO px where
 irrefl x:=by simp[px]
 trans x y z h1 h2:=by simp only[px,bf]at *;omega
 ntrans x y z h1 h2:=by simp only[px,fw]at *;omega
theorem acd:∀{l m:Y Int},l.Perm m->l.Pairwise (λ x y=>px y x=false)->m.Pairwise (λ x y=>px y x=false)->l=m
 |[],m,h,_,_=>(List.nil_perm.1 h).symm
 |x::l,[],h,_,_=>by have:=h.length_eq;simp at this
 |x::l,y::m,h,h1,h2=>by
  have e:x=y:=by rw[pairwise_cons]at h1 h2;have m1:x∈y::m:=h.mem_iff.1 List.mem_cons_self;have m2:y∈x::l:=h.mem_iff.2 List.mem_cons_self;rcases aI.1 m1 with e|m1;exact e;rcases aI.1 m2 with e|m2;exact e.symm;have a:=h1.1 y m2;have b:=h2.1 x m1;simp at a b;omega
  subst e;rw[pairwise_cons]at h1 h2;rw[acd (List.Perm.cons_inv h) h1.2 h2.2]
theorem Jj{α:Type}(lt:α->α->Bool)(x:α):∀ys:Y α,(nV lt x ys).Perm (x::ys)
 |[]=>List.Perm.refl _
 |y::ys=>by
  simp[nV];cases lt x y with
  |true=>exact((Jj lt x ys).cons y).trans (List.Perm.swap x y ys)
  |false=>exact List.Perm.refl _
theorem Fu{α:Type}(lt:α->α->Bool)(l:Y α):(kG lt l).Perm l:=by
 have gen:∀(xs rs:Y α),(xs.foldl (λ rs x=>nV lt x rs) rs).Perm (xs++rs):=by
  intro xs
  induction xs with
  |nil=>intro rs;exact List.Perm.refl _
  |cons x xs ih=>
   intro rs;refine(ih _).trans ?_;refine((Jj lt x rs).append_left xs).trans ?_;exact List.perm_middle
 exact(List.reverse_perm _).trans (by simpa using gen l [])
theorem aj7{α:Type}{lt:α->α->Bool}(hS:Go.Sort.SWO lt)(x:α):∀ys:Y α,ys.Pairwise (λ a b=>lt a b=false)->(nV lt x ys).Pairwise λa b=>lt a b=false
 |[],_=>by simp[nV]
 |y::ys,h=>by
  have h':=pairwise_cons.1 h;simp[nV];cases hxy:lt x y with
  |true=>
   rw[aj,pairwise_cons];refine⟨λ z hz=>?_,aj7 hS x ys h'.2⟩;rcases aI.1 ((Jj lt x ys).mem_iff.1 hz)with rfl|hz;cases hyx:lt y z with
   |false=>rfl
   |true=>have:=hS.trans _ _ _ hxy hyx;rw[hS.irrefl]at this;cases this
   exact h'.1 z hz
  |false=>
   rw[au,pairwise_cons];refine⟨λ z hz=>?_,h⟩;rcases aI.1 hz with rfl|hz;exact hxy;exact hS.ntrans _ _ _ hxy (h'.1 z hz)
theorem ank{α:Type}{lt:α->α->Bool}(hS:Go.Sort.SWO lt)(l:Y α):(kG lt l).Pairwise λx y=>lt y x=false:=by
 have gen:∀(xs rs:Y α),rs.Pairwise (λ a b=>lt a b=false)->(xs.foldl (λ rs x=>nV lt x rs) rs).Pairwise λa b=>lt a b=false:=by
  intro xs
  induction xs with
  |nil=>intro rs h;exact h
  |cons x xs ih=>intro rs h;exact ih _ (aj7 hS x rs h)
 rw[kG,List.pairwise_reverse];exact gen l [] List.Pairwise.nil
theorem aax(l:Y Int):(l.mergeSort λx y=>decide (x<=y))=kG px l:=by refine acd ((List.mergeSort_perm l _).trans (Fu px l).symm) ?_ (ank apl l);refine(List.pairwise_mergeSort (le:=λx y:Int=>decide (x<=y)) (λ a b c h1 h2=>?_) (λ a b=>?_) l).imp ?_;rw[bf]at *;omega;rw[Bool.or_eq_true,bf,bf];omega;intro a b h;rw[bf]at h;exact decide_eq_false (by omega)
end Go.Gb
