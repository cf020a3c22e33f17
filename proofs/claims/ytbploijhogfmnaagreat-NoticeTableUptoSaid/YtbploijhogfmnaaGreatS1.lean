/-
  What the printed functions of package slices and cmp come to.
-/
import Derived.Test.YtbploijhogfmnaaGreatTD2
open Go.IntKind (i64)
open Option (bind_some)
open List (map_cons mem_cons mem_append length_take mem_map all_eq_true mem_singleton nil_append length_append getElem_mem length_cons length_map mem_iff_getElem append_nil length_drop length_nil take_succ_eq_append_getElem foldl_cons take_of_length_le mem_filter any_eq_true mem_cons_self pairwise_cons filter_append length_filter_le pairwise_append getElem_drop)
open Bool (and_eq_true)
namespace Go.Proofs
open Go.Gb Go.RowKit
abbrev ltI (a b:Int):Bool:=decide (a < b)
theorem Jq (a b:Int):cmp_Less_int a b=some (ltI a b):=by simp[cmp_Less_int,cmp_isNaN_int]
theorem D7 (a b:Int):cmp_Compare_int a b=some (if a < b then -1 else if b < a then 1 else 0):=by
 by_cases h1:a < b
 ·simp[cmp_Compare_int,cmp_isNaN_int,h1]
 ·by_cases h2:b < a
  ·simp[cmp_Compare_int,cmp_isNaN_int,h1,h2]
  ·simp[cmp_Compare_int,cmp_isNaN_int,h1,h2]
theorem Od {x:Nat} (k:Nat) (h:2 ^ k<=x):Go.Sort.bitsLen x=Go.Sort.bitsLen (x/2 ^ k)+k:=by
 have key:∀ m,Go.Sort.bitsLen x<=m+k↔Go.Sort.bitsLen (x/2 ^ k)<=m:=by
  intro m;rw[Go.Sort.bitsLen_le_iff,Go.Sort.bitsLen_le_iff,Nat.pow_add,Nat.div_lt_iff_lt_mul (Nat.two_pow_pos k)]
 have h1:=(key (Go.Sort.bitsLen (x/2 ^ k))).2 (Nat.le_refl _);have hk:k<=Go.Sort.bitsLen x:=by
  rcases Nat.lt_or_ge (Go.Sort.bitsLen x) k with hlt |hge
  ·have:=(Go.Sort.bitsLen_le_iff x (Go.Sort.bitsLen x)).1 (Nat.le_refl _);have h2:2 ^ Go.Sort.bitsLen x<=2 ^ k:=Nat.pow_le_pow_right (by omega) (by omega);omega
  ·exact hge
 have h2:=(key (Go.Sort.bitsLen x - k)).1 (by omega);omega
theorem acU {v:Nat} (h:v < 256):IntKind.u8.wrap ((v:Nat):Int)=(v:Int):=by
 simp only[IntKind.wrap,IntKind.bits,IntKind.signed,Bool.false_and,Bool.false_eq_true,if_false];omega
set_option maxRecDepth 100000 in
theorem Bf {x:Nat} (hx:x < 1152921504606846976):bits_Len (x:Int)=some ((Go.Sort.bitsLen x:Nat):Int):=by
 unfold bits_Len bits_Len64;have tab:∀ v:Fin 256,O3 (⟨#[0,1,2,2,3,3,3,3,4,4,4,4,4,4,4,4,5,5,5,5,5,5,5,5,5,5,5,5,5,5,5,5,6,6,6,6,6,6,6,6,6,6,6,6,6,6,6,6,6,6,6,6,6,6,6,6,6,6,6,6,6,6,6,6,7,7,7,7,7,7,7,7,7,7,7,7,7,7,7,7,7,7,7,7,7,7,7,7,7,7,7,7,7,7,7,7,7,7,7,7,7,7,7,7,7,7,7,7,7,7,7,7,7,7,7,7,7,7,7,7,7,7,7,7,7,7,7,7,8,8,8,8,8,8,8,8,8,8,8,8,8,8,8,8,8,8,8,8,8,8,8,8,8,8,8,8,8,8,8,8,8,8,8,8,8,8,8,8,8,8,8,8,8,8,8,8,8,8,8,8,8,8,8,8,8,8,8,8,8,8,8,8,8,8,8,8,8,8,8,8,8,8,8,8,8,8,8,8,8,8,8,8,8,8,8,8,8,8,8,8,8,8,8,8,8,8,8,8,8,8,8,8,8,8,8,8,8,8,8,8,8,8,8,8,8,8,8,8,8,8,8,8,8,8,8,8]⟩) ((v.val:Nat):Int)=some ((Go.Sort.bitsLen v.val:Nat):Int):=by decide +kernel
 have k32:(decide (0<=32)&&decide (32<=IntKind.u64.bits))=true:=rfl;have k16:(decide (0<=16)&&decide (16<=IntKind.u64.bits))=true:=rfl;have k8:(decide (0<=8)&&decide (8<=IntKind.u64.bits))=true:=rfl;have step:∀ (x k s:Nat),∃ y t:Nat,((bif (decide ((x:Int)>=((2 ^ k:Nat):Int)))then some (((x/2 ^ k:Nat):Int),((s+k:Nat):Int))else some ((x:Int),(s:Int))):Option (Int×Int))=some ((y:Int),(t:Int))∧Go.Sort.bitsLen x+s=Go.Sort.bitsLen y+t∧(y < 2 ^ k∨y=x/2 ^ k)∧t<=s+k:=by
  intro x k s;by_cases h:2 ^ k<=x
  ·have c:decide ((x:Int)>=((2 ^ k:Nat):Int))=true:=(by rw[decide_eq_true_eq];omega);refine⟨x/2 ^ k,s+k,by rw[c];rfl,?_,.inr rfl,Nat.le_refl _⟩;have:=Od k h;omega
  ·have c:decide ((x:Int)>=((2 ^ k:Nat):Int))=false:=(by rw[decide_eq_false_iff_not];omega);exact⟨x,s,by rw[c];rfl,rfl,.inl (by omega),by omega⟩
 have sh:∀ (v k:Nat),((v:Int)/2 ^ ((k:Nat):Int).toNat)=((v/2 ^ k:Nat):Int):=by
  intro v k;rw[Int.toNat_natCast]
  push_cast
  rfl
 obtain⟨y1,t1,e1,b1,c1,d1⟩:=step x 32 0;obtain⟨y2,t2,e2,b2,c2,d2⟩:=step y1 16 t1;obtain⟨y3,t3,e3,b3,c3,d3⟩:=step y2 8 t2;have s1:((bif (decide ((x:Int)>=(4294967296:Int)))then bif ((decide (0<=32)&&decide (32<=IntKind.u64.bits)))then some (((x:Int)/2 ^ (32:Int).toNat),(32:Int))else none else some ((x:Int),(0:Int))):Option (Int×Int))=some ((y1:Int),(t1:Int)):=by
  rw[k32,<- e1];rw[show ((x:Int)/2 ^ (32:Int).toNat)=((x/2 ^ 32:Nat):Int)from sh x 32];rfl
 have s2:((bif (decide ((y1:Int)>=(65536:Int)))then bif ((decide (0<=16)&&decide (16<=IntKind.u64.bits)))then some (((y1:Int)/2 ^ (16:Int).toNat),(i64.wrap ((t1:Int)+16)))else none else some ((y1:Int),(t1:Int))):Option (Int×Int))=some ((y2:Int),(t2:Int)):=by
  rw[k16,<- e2];rw[show ((y1:Int)/2 ^ (16:Int).toNat)=((y1/2 ^ 16:Nat):Int)from sh y1 16,show i64.wrap ((t1:Int)+16)=((t1+16:Nat):Int)from G9 (j:=16) (by omega)];rfl
 have s3:((bif (decide ((y2:Int)>=(256:Int)))then bif ((decide (0<=8)&&decide (8<=IntKind.u64.bits)))then some (((y2:Int)/2 ^ (8:Int).toNat),(i64.wrap ((t2:Int)+8)))else none else some ((y2:Int),(t2:Int))):Option (Int×Int))=some ((y3:Int),(t3:Int)):=by
  rw[k8,<- e3];rw[show ((y2:Int)/2 ^ (8:Int).toNat)=((y2/2 ^ 8:Nat):Int)from sh y2 8,show i64.wrap ((t2:Int)+8)=((t2+8:Nat):Int)from G9 (j:=8) (by omega)];rfl
 have hy:y3 < 256:=by
  have q1:(2:Nat) ^ 32=4294967296:=rfl;have q2:(2:Nat) ^ 16=65536:=rfl;have q3:(2:Nat) ^ 8=256:=rfl;rw[q1]at c1;rw[q2]at c2;rw[q3]at c3;omega
 simp only[s1,bind_some,s2,s3];rw[acU hy,show O3 _ ((y3:Nat):Int)=_ from tab ⟨y3,hy⟩];have hb:Go.Sort.bitsLen y3<=8:=(Go.Sort.bitsLen_le_iff _ _).2 (by simpa using hy);simp only[bind_some];rw[jv (by omega),G9 (by omega)];congr 2;omega
theorem aci:Pz aM:=by
 intro L h8 hL;have hb:Go.Sort.bitsLen L<=60:=(Go.Sort.bitsLen_le_iff _ _).2 (by omega);have hp:2 ^ Go.Sort.bitsLen L<=2 ^ 60:=Nat.pow_le_pow_right (by omega) hb;unfold aM;rw[lZ (by omega),Bf hL,bind_some];have c:(decide ((0:Int)<=((Go.Sort.bitsLen L:Nat):Int))&&decide (((Go.Sort.bitsLen L:Nat):Int)<=((IntKind.u64.bits:Nat):Int)))=true:=by
  have:((IntKind.u64.bits:Nat):Int)=64:=rfl;rw[this,and_eq_true,decide_eq_true_eq,decide_eq_true_eq];omega
 rw[c];simp only[cond_true];rw[Int.toNat_natCast,Int.one_mul,show ((2:Int) ^ Go.Sort.bitsLen L)=((2 ^ Go.Sort.bitsLen L:Nat):Int)by push_cast;rfl,lZ (by omega)]
theorem acj:Mq aP:=by
 intro r hr;have c13:(decide (0<=13)&&decide (13<=IntKind.u64.bits))=true:=rfl;have c7:(decide (0<=7)&&decide (7<=IntKind.u64.bits))=true:=rfl;have c17:(decide (0<=17)&&decide (17<=IntKind.u64.bits))=true:=rfl;have sl:∀ (v k:Nat),IntKind.u64.wrap ((v:Int)*2 ^ ((k:Nat):Int).toNat)=((v*2 ^ k%18446744073709551616:Nat):Int):=by
  intro v k;rw[Int.toNat_natCast,show ((v:Int)*2 ^ k)=((v*2 ^ k:Nat):Int)by push_cast;rfl];simp only[IntKind.wrap,IntKind.bits,IntKind.signed,Bool.false_and,Bool.false_eq_true,if_false];omega
 have sr:∀ (v k:Nat),((v:Int)/2 ^ ((k:Nat):Int).toNat)=((v/2 ^ k:Nat):Int):=by
  intro v k;rw[Int.toNat_natCast];push_cast;rfl
 have ha:r ^^^ (r*2 ^ 13%18446744073709551616) < 18446744073709551616:=Nat.xor_lt_two_pow (n:=64) (by omega) (by omega);have hb:(r ^^^ (r*2 ^ 13%18446744073709551616)) ^^^ ((r ^^^ (r*2 ^ 13%18446744073709551616))/2 ^ 7) < 18446744073709551616:=Nat.xor_lt_two_pow (n:=64) (by omega) (by omega);unfold aP;rw[c13,c7,c17];simp only[cond_true];rw[show IntKind.u64.wrap ((r:Int)*2 ^ (13:Int).toNat)=((r*2 ^ 13%18446744073709551616:Nat):Int)from sl r 13,Ml hr (by omega)];rw[show (((r ^^^ (r*2 ^ 13%18446744073709551616):Nat):Int)/2 ^ (7:Int).toNat)=_ from sr _ 7,Ml ha (by omega)];rw[show IntKind.u64.wrap (((((r ^^^ (r*2 ^ 13%18446744073709551616)) ^^^ ((r ^^^ (r*2 ^ 13%18446744073709551616))/2 ^ 7):Nat)):Int)*2 ^ (17:Int).toNat)=_ from sl _ 17,Ml hb (by omega)];rfl
theorem J8:Go.Sort.SWO ltI where
 irrefl x:=by simp[ltI]
 trans x y z h1 h2:=by simp only[ltI,decide_eq_true_eq]at *;omega
 ntrans x y z h1 h2:=by simp only[ltI,decide_eq_false_iff_not]at *;omega
theorem PU:∀ {l m:List Int},l.Perm m->l.Pairwise (fun x y=>ltI y x=false)->m.Pairwise (fun x y=>ltI y x=false)->l=m
 |[],m,h,_,_=>(List.nil_perm.1 h).symm
 |x::l,[],h,_,_=>by have:=h.length_eq;simp at this
 |x::l,y::m,h,h1,h2=>by
  have e:x=y:=by
   rw[pairwise_cons]at h1 h2;have m1:x∈y::m:=h.mem_iff.1 mem_cons_self;have m2:y∈x::l:=h.mem_iff.2 mem_cons_self;rcases mem_cons.1 m1 with e |m1
   ·exact e
   ·rcases mem_cons.1 m2 with e |m2
    ·exact e.symm
    ·have a:=h1.1 y m2;have b:=h2.1 x m1;simp only[ltI,decide_eq_false_iff_not]at a b;omega
  subst e;rw[pairwise_cons]at h1 h2;rw[PU (List.Perm.cons_inv h) h1.2 h2.2]
theorem Bg {α:Type} (lt:α->α->Bool) (x:α):∀ ys:List α,(iK lt x ys).Perm (x::ys)
 |[]=>List.Perm.refl _
 |y::ys=>by
  simp only[iK];cases lt x y with
  |true=>exact ((Bg lt x ys).cons y).trans (List.Perm.swap x y ys)
  |false=>exact List.Perm.refl _
theorem MI {α:Type} (lt:α->α->Bool) (l:List α):(mG lt l).Perm l:=by
 have gen:∀ (xs rs:List α),(xs.foldl (fun rs x=>iK lt x rs) rs).Perm (xs++rs):=by
  intro xs
  induction xs with
  |nil=>intro rs;exact List.Perm.refl _
  |cons x xs ih=>
   intro rs;refine (ih _).trans ?_;refine ((Bg lt x rs).append_left xs).trans ?_;exact List.perm_middle
 unfold mG;exact (List.reverse_perm _).trans (by simpa using gen l [])
theorem insRev_sorted {α:Type} {lt:α->α->Bool} (hS:Go.Sort.SWO lt) (x:α):∀ ys:List α,ys.Pairwise (fun a b=>lt a b=false)->(iK lt x ys).Pairwise fun a b=>lt a b=false
 |[],_=>by simp[iK]
 |y::ys,h=>by
  have h':=pairwise_cons.1 h;simp only[iK];cases hxy:lt x y with
  |true=>
   rw[cond_true,pairwise_cons];refine⟨fun z hz=>?_,insRev_sorted hS x ys h'.2⟩;rcases mem_cons.1 ((Bg lt x ys).mem_iff.1 hz)with rfl |hz
   ·cases hyx:lt y z with
    |false=>rfl
    |true=>have:=hS.trans _ _ _ hxy hyx;rw[hS.irrefl]at this;cases this
   ·exact h'.1 z hz
  |false=>
   rw[cond_false,pairwise_cons];refine⟨fun z hz=>?_,h⟩;rcases mem_cons.1 hz with rfl |hz
   ·exact hxy
   ·exact hS.ntrans _ _ _ hxy (h'.1 z hz)
theorem isort_sorted {α:Type} {lt:α->α->Bool} (hS:Go.Sort.SWO lt) (l:List α):(mG lt l).Pairwise fun x y=>lt y x=false:=by
 have gen:∀ (xs rs:List α),rs.Pairwise (fun a b=>lt a b=false)->(xs.foldl (fun rs x=>iK lt x rs) rs).Pairwise fun a b=>lt a b=false:=by
  intro xs
  induction xs with
  |nil=>intro rs h;exact h
  |cons x xs ih=>intro rs h;exact ih _ (insRev_sorted hS x rs h)
 unfold mG;rw[List.pairwise_reverse];exact gen l [] List.Pairwise.nil
theorem YZ (l:List Int):zB ltI l=mG ltI l:=
 PU ((DU J8 l).trans (MI ltI l).symm) (Fy J8 l) (isort_sorted J8 l)
theorem Ua (n:Nat):∀ m,dx n m=iA cmp_Less_int (fun r=>r) aM aP n m
 | 0=>rfl
 |m+1=>by
  show iO n (dx n m)=jQ cmp_Less_int (fun r=>r) aM aP n (iA cmp_Less_int (fun r=>r) aM aP n m);rw[Ua n m];generalize iA cmp_Less_int (fun r=>r) aM aP n m=rc
  kernel_rfl
theorem sV {n:Nat} {l:List Int} (hl:l.length < 1099511627776) (hn:l.length < n):l5 n l=some (mG ltI l):=by
 unfold l5 jH;rw[lZ (by omega),Bf (by omega),Ua];simp only[bind_some,aC,cond_true];rw[AY (lt:=ltI) J8 (f:=ltI) (q:=fun r=>r) Jq (fun _ _=>rfl) aci acj (by omega) hn hn,YZ];rfl
theorem ng {n:Nat} {l:List Int} (hl:l.length < 1099511627776) (hn:l.length < n):jT n l=some ((),fI l):=by
 rw[<- TM];exact N9 (eq:=fun x y=>x==y) (ne:=fun x y=>x != y) (fun x y=>by simp[bne]) hl hn
theorem Jr {n:Nat} {l:List Int} {a:Int} (hl:l.length < 1099511627776) (hn:l.length < n):yN n l a=some (wQ (fun x=>a==x) l):=TH hl hn
theorem lQ {n:Nat} {l:List Int} {a:Int} (hl:l.length < 1099511627776) (hn:l.length < n):gB n l a=some (l.any fun x=>a==x):=by
 unfold gB;rw[Jr hl hn,bind_some,Q7]
theorem Bh {n:Nat} {l:List Int} {φ:(Int×Unit)->Option Bool} (p:Int->Bool) (h:∀ x∈l,φ (x,())=some (p x)) (hl:l.length < 1099511627776) (hn:l.length < n):mY n l φ=some ((),l.filter fun x=>!p x):=G7 p h hl hn
theorem nK {n:Nat} {l:List bB} {φ:(bB×Unit)->Option Bool} (p:bB->Bool) (h:∀ x∈l,φ (x,())=some (p x)) (hl:l.length < 1099511627776) (hn:l.length < n):jc n l φ=some (wQ p l):=jy p h hl hn
theorem nL {n:Nat} {l:List bL} {φ:(bL×Unit)->Option Bool} (p:bL->Bool) (h:∀ x∈l,φ (x,())=some (p x)) (hl:l.length < 1099511627776) (hn:l.length < n):jd n l φ=some (wQ p l):=jy p h hl hn
theorem xh {l:List ak} (h:l.length < 1099511627776):oI l=some l:=I4 (b:=32) (by omega) (by simp only[maxLen];omega)
theorem Js {l:List Int} (h:l.length < 1099511627776):yJ l=some l:=I4 (b:=8) (by omega) (by simp only[maxLen];omega)
theorem FT {n:Nat} {l:List (List ak)} (hf:l.flatten.length < 1099511627776) (hl:l.length < 1099511627776) (hn:l.length < n):sM n l=some l.flatten:=Ra (ak.mk 0 0 0 0) (b:=32) hf (by omega) hl hn
theorem Hu {n:Nat} {a b:List ak} (hl:a.length < 1099511627776) (hn:a.length < n):kX n a b=some (decide (a=b)):=by
 have e:kX n a b=Fp n (fun x1 x2:ak=>!((x1.x0==(x2.x0:Int))&&((x1.y0==(x2.y0:Int))&&((x1.x1==(x2.x1:Int))&&((x1.y1==(x2.y1:Int))&&true))))) a b:=by kernel_rfl
 rw[e];refine AB (fun x y=>?_) hl hn;obtain⟨a,b,c,d⟩:=x;obtain⟨e,f,g,h⟩:=y;simp only[ak.mk.injEq,Bool.and_true];rw[Bool.eq_iff_iff];simp
theorem xk {n:Nat} {a b:List aB} (hl:a.length < 1099511627776) (hn:a.length < n):oJ n a b=some (decide (a=b)):=by
 have e:oJ n a b=Fp n (fun x1 x2:aB=>!((x1.from_==(x2.from_:Int))&&((x1.to==(x2.to:Int))&&true))) a b:=by kernel_rfl
 rw[e];refine AB (fun x y=>?_) hl hn;obtain⟨a,b⟩:=x;obtain⟨c,d⟩:=y;simp only[aB.mk.injEq,Bool.and_true];rw[Bool.eq_iff_iff];simp
theorem uY {n:Nat} {a b:List Int} (hl:a.length < 1099511627776) (hn:a.length < n):jU n a b=some (decide (a=b)):=by
 have e:jU n a b=Fp n (fun x1 x2:Int=>x1 != x2) a b:=by kernel_rfl
 rw[e];refine AB (fun x y=>?_) hl hn;rw[Bool.eq_iff_iff];simp[bne]
abbrev ltS (a b:aB):Bool:=decide (a.from_ < b.from_)
theorem FU:Go.Sort.SWO ltS where
 irrefl x:=by simp[ltS]
 trans x y z h1 h2:=by simp only[ltS,decide_eq_true_eq]at *;omega
 ntrans x y z h1 h2:=by simp only[ltS,decide_eq_false_iff_not]at *;omega
instance:Inhabited aB:=⟨⟨0,0⟩⟩
theorem Y0 (n:Nat) (rc:List aB->Int->Int->Int->((aB×aB×Unit)->Option Int)->Option (List aB)) (φ:(aB×aB×Unit)->Option Int) (l:List aB) (a b d:Int):dW n rc l a b d φ=jQ (fun x y=>φ (x,y,())) (fun r=>decide (r < 0)) aM aP n (fun l a b d=>rc l a b d φ) l a b d:=by kernel_rfl
theorem PV (n:Nat) (φ:(aB×aB×Unit)->Option Int):∀ m l a b d,bE n m l a b d φ=iA (fun x y=>φ (x,y,())) (fun r=>decide (r < 0)) aM aP n m l a b d
 | 0,l,a,b,d=>rfl
 |m+1,l,a,b,d=>by
  have e:(fun l a b d=>bE n m l a b d φ)=iA (fun x y=>φ (x,y,())) (fun r=>decide (r < 0)) aM aP n m:=by
   funext l a b d;exact PV n φ m l a b d
  show dW n (bE n m) l a b d φ=jQ (fun x y=>φ (x,y,())) (fun r=>decide (r < 0)) aM aP n (iA (fun x y=>φ (x,y,())) (fun r=>decide (r < 0)) aM aP n m) l a b d;rw[<- e];exact Y0 n (bE n m) φ l a b d
theorem Cx {n:Nat} {l:List aB} {φ:(aB×aB×Unit)->Option Int} (f:aB->aB->Int) (hφ:∀ x y,φ (x,y,())=some (f x y)) (hf:∀ x y,decide (f x y < 0)=ltS x y) (hl:l.length < 1099511627776) (hn:l.length < n):kg n l φ=some (zB ltS l):=by
 unfold kg je;rw[lZ (by omega),Bf (by omega)];simp only[bind_some,aC,cond_true,PV];rw[AY (lt:=ltS) FU (f:=f) (q:=fun r=>decide (r < 0)) hφ hf aci acj (by omega) hn hn];rfl
theorem XQ {V O:Type} {step:V->Option (V ⊕ O)} (Inv:V->Prop) (Post:O->Prop) (μ:V->Nat)
 (h:∀ v,Inv v->(∃ v',step v=some (.inl v')∧Inv v'∧μ v' < μ v)∨∃ o,step v=some (.inr o)∧Post o):∀ (n:Nat) (v:V),Inv v->μ v < n->∃ o,iter step n v=some o∧Post o
 | 0,_,_,hn=>absurd hn (Nat.not_lt_zero _)
 |n+1,v,hi,hn=>by
  rcases h v hi with ⟨v',h1,h2,h3⟩ |⟨o,h1,h2⟩
  ·rw[aV h1];exact XQ Inv Post μ h n v' h2 (by omega)
  ·exact⟨o,aJ h1,h2⟩
theorem Bj:∀ (N:Nat) (l:List Nat),l.Nodup->(∀ y∈l,y < N)->l.length<=N
 | 0,[],_,_=>Nat.le_refl _
 | 0,x::l,_,h=>absurd (h x (by simp)) (by omega)
 |N+1,l,hn,h=>by
  have h1:=Bj N (l.filter fun y=>decide (y≠N)) (hn.filter _) (fun y hy=>by
   rw[mem_filter]at hy;have:=h y hy.1;have:=hy.2;simp only[decide_eq_true_eq]at this;omega)
  have h2:=List.length_eq_countP_add_countP (fun y=>decide (y≠N)) (l:=l);rw[List.countP_eq_length_filter]at h2;have h3:List.countP (fun a=>decide ¬(decide (a≠N)=true)) l=l.count N:=by
   rw[List.count];refine List.countP_congr fun y _=>?_;simp
  have h4:=List.nodup_iff_count.1 hn N;omega
def Oe (us:List (List Int)) (N:Nat):Prop:=us.length=N∧N<=4000000∧∀ l∈us,l.length<=4000000∧∀ k∈l,0<=k∧k < (N:Int)
structure BI (us:List (List Int)) (N to h:Nat) (d:List Int) (F:List Nat):Prop where
 dl:d.length=N
 nd:F.Nodup
 rg:∀ x∈F,x < N
 mem:∀ i:Nat,i < N->(0<=d.getD i 0↔i∈F)
 ub:∀ j x:Nat,F[j]? =some x->d.getD x 0<=(j:Int)
 pre:∀ j x:Nat,F[j]? =some x->0 < j->∃ p y:Nat,p < j∧F[p]? =some y∧(y:Int)∈us.getD x []∧d.getD y 0=d.getD x 0 - 1
 hd:F[0]? =some to∧d.getD to 0=0
 hh:h<=F.length
 cl:∀ p y:Nat,p < h->F[p]? =some y->∀ i:Nat,i < N->(y:Int)∈us.getD i []->0<=d.getD i 0
theorem BI.len {us:List (List Int)} {N to h:Nat} {d:List Int} {F:List Nat} (b:BI us N to h d F):F.length<=N:=by exact Bj N F b.nd b.rg
theorem BI.push {us:List (List Int)} {N to h:Nat} {d:List Int} {F:List Nat} (b:BI us N to h d F) {i x p:Nat} (hi:i < N) (hd:d.getD i 0 < 0) (hp:F[p]? =some x) (hx:(x:Int)∈us.getD i []):
 BI us N to h (d.set i (d.getD x 0+1)) (F++[i]):=by
 have hiF:i∉F:=fun hm=>by have:=(b.mem i hi).2 hm;omega
 have hxF:x∈F:=List.mem_of_getElem? hp;have hne:∀ y,y∈F->i≠y:=fun y hy e=>hiF (e ▸ hy);have hset:∀ y,y∈F->(d.set i (d.getD x 0+1)).getD y 0=d.getD y 0:=fun y hy=>by simp only[List.getD,List.getElem?_set_ne (hne y hy)]
 have hseti:(d.set i (d.getD x 0+1)).getD i 0=d.getD x 0+1:=by
  have:i < d.length:=by rw[b.dl];exact hi
  simp[List.getD,this]
 have hx0:0<=d.getD x 0:=(b.mem x (b.rg x hxF)).2 hxF;have hlt:p < F.length:=(List.getElem?_eq_some_iff.1 hp).1;refine⟨by simpa using b.dl,?_,?_,?_,?_,?_,?_,?_,?_⟩
 ·rw[List.nodup_append];exact⟨b.nd,by simp,fun a ha c hc=>by simp at hc;subst hc;exact fun e=>hiF (e ▸ ha)⟩
 ·intro y hy;rw[mem_append]at hy;rcases hy with hy |hy
  ·exact b.rg y hy
  ·simp at hy;omega
 ·intro j hj;by_cases e:i=j
  ·subst e;rw[hseti];exact⟨fun _=>by simp,fun _=>by omega⟩
  ·simp only[List.getD,List.getElem?_set_ne e];rw[mem_append];have:=b.mem j hj;simp only[List.getD]at this;rw[this];simp[Ne.symm e]
 ·intro j y hy;rw[List.getElem?_append]at hy;split at hy
  ·rw[hset y (List.mem_of_getElem? hy)];exact b.ub j y hy
  ·rename_i hj;have:y=i∧j=F.length:=by
    cases h:j - F.length with
    |zero=>rw[h]at hy;simp at hy;exact⟨hy.symm,by omega⟩
    |succ z=>rw[h]at hy;simp at hy
   obtain⟨rfl,rfl⟩:=this;rw[hseti];have:=b.ub p x hp;omega
 ·intro j y hy hj;rw[List.getElem?_append]at hy;split at hy
  ·obtain⟨p',y',h1,h2,h3,h4⟩:=b.pre j y hy hj;exact⟨p',y',h1,by rw[List.getElem?_append_left (by have:=(List.getElem?_eq_some_iff.1 h2).1;exact this)];exact h2,h3,by rw[hset y' (List.mem_of_getElem? h2),hset y (List.mem_of_getElem? hy)];exact h4⟩
  ·rename_i hj';have:y=i∧j=F.length:=by
    cases h:j - F.length with
    |zero=>rw[h]at hy;simp at hy;exact⟨hy.symm,by omega⟩
    |succ z=>rw[h]at hy;simp at hy
   obtain⟨rfl,rfl⟩:=this;exact⟨p,x,hlt,by rw[List.getElem?_append_left hlt];exact hp,hx,by rw[hseti,hset x hxF];omega⟩
 ·have h0:=(List.getElem?_eq_some_iff.1 b.hd.1).1;exact⟨by rw[List.getElem?_append_left h0];exact b.hd.1,by rw[hset _ (List.mem_of_getElem? b.hd.1)];exact b.hd.2⟩
 ·have:=b.hh;simp;omega
 ·intro p' y hp' hy j hj hm;rw[List.getElem?_append_left (by have:=b.hh;omega)]at hy;have:=b.cl p' y hp' hy j hj hm;rw[hset j ((b.mem j hj).1 this)];exact this
theorem dropL_eq {α:Type} (o:Nat) (l:List α):K6 o l=l.drop o:=by cases o<;>simp[K6]
def BS (us:List (List Int)) (N to h x:Nat):(Int×Int×List Int×List Int)->Prop
 |(v4,v5,d,v7)=>∃ (o i:Nat) (F:List Nat),v4=(o:Int)∧v5=(i:Int)∧o<=v7.length∧v7.drop o=(F.drop (h+1)).map (fun k:Nat=>(k:Int))∧i<=N∧BI us N to h d F∧F[h]? =some x∧∀ i',i' < i->(x:Int)∈us.getD i' []->0<=d.getD i' 0
theorem abM {n N to h x:Nat} {a0:jR} {r1:List Int} (hg:Oe a0.uses N) (hr:r1.length=N) (hn:4000001<=n) (v:Int×Int×List Int×List Int) (hv:BS a0.uses N to h x v):
 (∃ v',bX n a0 r1 x v=some (.inl v')∧BS a0.uses N to h x v'∧N - v'.2.1.toNat < N - v.2.1.toNat)∨
 ∃ q,bX n a0 r1 x v=some (.inr q)∧∃ (o:Nat) (F:List Nat),q.1=(o:Int)∧o<=q.2.2.length∧q.2.2.drop o=(F.drop (h+1)).map (fun k:Nat=>(k:Int))∧BI a0.uses N to (h+1) q.2.1 F:=by
 obtain⟨v4,v5,d,v7⟩:=v;obtain⟨o,i,F,rfl,rfl,ho,hq,hi,hb,hx,hc⟩:=hv;have hx':x < N:=hb.rg x (List.mem_of_getElem? hx);have hul:=hg.1;have hdl:=hb.dl;by_cases hlt:i < N
 ·left;have hui:i < a0.uses.length:=by omega
  have hl:=hg.2.2 a0.uses[i] (getElem_mem hui);have hcon:=lQ (n:=n) (l:=a0.uses[i]) (a:=(x:Int)) (by omega) (by omega);have hud:a0.uses.getD i []=a0.uses[i]:=by simp[List.getD,hui]
  have hdi:d[i]'(by omega)=d.getD i 0:=by simp[List.getD,show i < d.length by omega]
  have hdx:d[x]'(by omega)=d.getD x 0:=by simp[List.getD,show x < d.length by omega]
  simp only[bX,show decide ((i:Int) < ((a0.uses.length:Int)))=true from by simp;omega,cond_true,aN hui,bind_some,bR (show i < r1.length by omega),bR (show x < r1.length by omega),
   cK (show i < d.length by omega),cK (show x < d.length by omega),hcon,hdi,hdx]
  have hFl:=hb.len;have hN:=hg.2.1;have hlen:v7.length - o=F.length - (h+1):=by have:=congrArg List.length hq;simpa using this
  have hmx:maxLen=9223372036854775807:=rfl;by_cases hA:d.getD i 0 < 0∧(x:Int)∈a0.uses[i]
  ·have h1:(a0.uses[i].any fun y=>(x:Int)==y)=true:=any_eq_true.2 ⟨_,hA.2,by simp⟩;have hx0:0<=d.getD x 0:=(hb.mem x hx').2 (List.mem_of_getElem? hx);have hxu:=hb.ub h x hx;have hFh:h < F.length:=(List.getElem?_eq_some_iff.1 hx).1;have hap:bO (v7.drop o).length (v7.length - o) (sub [(i:Int)] 0 1).length 1 8=true:=(by simp[bO,sub];omega);have hw:i64.wrap (d.getD x 0+1)=d.getD x 0+1:=dV (by omega) (by omega);refine⟨(((0:Nat):Int),((i+1:Nat):Int),d.set i (d.getD x 0+1),v7.drop o++[(i:Int)]),?_,?_,by show N - ((i+1:Nat):Int).toNat < N - ((i:Nat):Int).toNat;omega⟩
   ·simp only[hA.1,decide_true,cond_true,bind_some,h1,Int.toNat_natCast,dropL_eq,hap,fO,hw,au (show i < 9223372036854775807 by omega)];simp[eqL,sub]
   ·refine⟨0,i+1,F++[i],rfl,rfl,Nat.zero_le _,?_,by omega,hb.push hlt hA.1 hx (by rw[hud];exact hA.2),by rw[List.getElem?_append_left hFh];exact hx,?_⟩
    ·rw[List.drop_zero,hq,List.drop_append_of_le_length (by omega)];simp
    ·intro i' hi' hm;have hpush:=hb.push hlt hA.1 hx (by rw[hud];exact hA.2);by_cases e:i'=i
     ·subst e;exact (hpush.mem i' hlt).2 (by simp)
     ·have:=hc i' (by omega) hm;exact (hpush.mem i' (by omega)).2 (List.mem_append_left _ ((hb.mem i' (by omega)).1 this))
  ·have hB:(bif decide (d.getD i 0 < 0)then some (a0.uses[i].any fun y=>(x:Int)==y)else some false)=some false:=by
    by_cases h2:d.getD i 0 < 0
    ·simp only[h2,decide_true,cond_true,Option.some.injEq];cases hc:(a0.uses[i].any fun y=>(x:Int)==y)with
     |false=>rfl
     |true=>
      obtain⟨y,hy,e⟩:=any_eq_true.1 hc;obtain rfl:(x:Int)=y:=(by simpa using e);exact absurd ⟨h2,hy⟩ hA
    ·simp only[h2,decide_false,cond_false]
   refine⟨((o:Int),((i+1:Nat):Int),d,v7),?_,?_,by show N - ((i+1:Nat):Int).toNat < N - ((i:Nat):Int).toNat;omega⟩
   ·rw[hB];simp only[bind_some,cond_false,Int.toNat_natCast,Mf (show o+(v7.length - o)=v7.length by omega),cond_true,au (show i < 9223372036854775807 by omega)]
   ·refine⟨o,i+1,F,rfl,rfl,ho,hq,by omega,hb,hx,fun i' hi' hm=>?_⟩;by_cases e:i'=i
    ·subst e;rw[hud]at hm;exact Int.not_lt.1 fun h2=>hA ⟨h2,hm⟩
    ·exact hc i' (by omega) hm
 ·right;have hiN:i=N:=by omega
  have hFh:h < F.length:=(List.getElem?_eq_some_iff.1 hx).1;refine⟨((o:Int),d,v7),?_,o,F,rfl,ho,hq,?_⟩
  ·simp only[bX,show decide ((i:Int) < ((a0.uses.length:Int)))=false from by simp;omega,cond_false,Int.toNat_natCast,Mf (show o+(v7.length - o)=v7.length by omega),cond_true]
  ·refine⟨hb.dl,hb.nd,hb.rg,hb.mem,hb.ub,hb.pre,hb.hd,hFh,fun p y hp hy j hj hm=>?_⟩;by_cases e:p=h
   ·subst e;rw[hx]at hy;cases hy;exact hc j (by omega) hm
   ·exact hb.cl p y (by omega) hy j hj hm
def BO (us:List (List Int)) (N to h:Nat):(Int×List Int×List Int)->Prop
 |(v1,d,v3)=>∃ (o:Nat) (F:List Nat),v1=(o:Int)∧o<=v3.length∧v3.drop o=(F.drop h).map (fun k:Nat=>(k:Int))∧BI us N to h d F
theorem abN {n N to h:Nat} {a0:jR} {r1:List Int} (hg:Oe a0.uses N) (hr:r1.length=N) (hn:4000001<=n) (v:Int×List Int×List Int) (hv:BO a0.uses N to h v):
 (∃ v',bK n a0 r1 v=some (.inl v')∧BO a0.uses N to (h+1) v')∨∃ d,bK n a0 r1 v=some (.inr d)∧∃ F,BI a0.uses N to F.length d F:=by
 obtain⟨v1,d,v3⟩:=v;obtain⟨o,F,rfl,ho,hq,hb⟩:=hv;have hlen:v3.length - o=F.length - h:=by have:=congrArg List.length hq;simpa using this
 by_cases hlt:h < F.length
 ·left;obtain⟨x,hx⟩:∃ x,F[h]? =some x:=⟨_,List.getElem?_eq_getElem hlt⟩;have hox:v3[o]? =some (x:Int):=by
   have:=congrArg (fun l=>l[0]?) hq;simpa[hx]using this
  have hdr:v3.drop (o+1)=(F.drop (h+1)).map (fun k:Nat=>(k:Int)):=by
   have:=congrArg (fun l=>l.drop 1) hq;simpa using this
  obtain⟨q,hq1,o2,F2,hq2,hq3,hq4,hq5⟩:=XQ (BS a0.uses N to h x) (fun q:Int×List Int×List Int=>∃ (o:Nat) (F:List Nat),q.1=(o:Int)∧o<=q.2.2.length∧q.2.2.drop o=(F.drop (h+1)).map (fun k:Nat=>(k:Int))∧BI a0.uses N to (h+1) q.2.1 F)
   (fun v=>N - v.2.1.toNat) (abM (r1:=r1) hg hr hn) n (((o+1:Nat):Int),0,d,v3) ⟨o+1,0,F,rfl,rfl,by omega,hdr,Nat.zero_le _,hb,hx,fun i' hi'=>absurd hi' (Nat.not_lt_zero _)⟩ (by have:=hg.2.1;simp;omega)
  obtain⟨w1,w2,w3⟩:=q;simp only at hq2 hq3 hq4 hq5;subst hq2;refine⟨((o2:Int),w2,w3),?_,o2,F2,rfl,hq3,hq4,hq5⟩;have hat:at? v3 ((o:Int)+0)=some (x:Int):=by rw[Int.add_zero,AA];exact hox
  simp only[bK,Int.toNat_natCast,show decide (((v3.length - o:Nat):Int)>0)=true from by simp;omega,cond_true,show inb 0 (v3.length - o)=true from by simp[inb];omega,hat,bind_some,
   jB (show (0:Int)<=1 by omega) (show (1:Int)<=((v3.length - o:Nat):Int)by omega) (Int.le_refl _),Mf (show o+1+(v3.length - o - 1)=v3.length by omega),hq1,Mf (show o2+(w3.length - o2)=w3.length by omega)]
 ·right;have hhF:h=F.length:=by have:=hb.hh;omega
  refine⟨d,?_,F,hhF ▸ hb⟩;simp only[bK,Int.toNat_natCast,show decide (((v3.length - o:Nat):Int)>0)=false from by simp;omega,cond_false]
theorem d9 {V O:Type} {step:V->Option (V ⊕ O)} (Inv:Nat->V->Prop) (Post:O->Prop) (K:Nat) (hK:∀ k v,Inv k v->k<=K)
 (h:∀ k v,Inv k v->(∃ v',step v=some (.inl v')∧Inv (k+1) v')∨∃ o,step v=some (.inr o)∧Post o):∀ (n k:Nat) (v:V),Inv k v->K < n+k->∃ o,iter step n v=some o∧Post o
 | 0,k,v,hi,hn=>absurd (hK k v hi) (by omega)
 |n+1,k,v,hi,hn=>by
  rcases h k v hi with ⟨v',h1,h2⟩ |⟨o,h1,h2⟩
  ·rw[aV h1];exact d9 Inv Post K hK h n (k+1) v' h2 (by omega)
  ·exact⟨o,aJ h1,h2⟩
theorem Rt {n N to:Nat} {a0:jR} (hg:Oe a0.uses N) (hd:a0.defs.length=N) (hn:4000002<=n) (ht:to < N):∃ d F,eZ n a0 to=some d∧BI a0.uses N to F.length d F:=by
 have hN:=hg.2.1;have hr:kY (sub ([(-1)]:List Int) 0 1) (N:Int)=some (List.replicate N (-1)):=by
  show (bif decide (0<=(N:Int))&&decide ((N:Int)<=1000000000000)then some (List.replicate (N:Int).toNat (-1))else none)=_;rw[show decide (0<=(N:Int))=true by simp,show decide ((N:Int)<=1000000000000)=true by simp;omega];rfl
 have hlr:(List.replicate N (-1:Int)).length=N:=List.length_replicate;have hb0:BI a0.uses N to 0 ((List.replicate N (-1:Int)).set to 0) [to]:=by
  have hto:((List.replicate N (-1:Int)).set to 0).getD to 0=0:=by simp[List.getD,ht]
  refine⟨by simp,by simp,fun x hx=>by simp at hx;omega,fun i hi=>?_,fun j x hx=>?_,fun j x hx hj=>?_,⟨rfl,hto⟩,by simp,fun p y hp=>absurd hp (Nat.not_lt_zero _)⟩
  ·by_cases e:to=i
   ·subst e;rw[hto];simp
   ·simp only[List.getD,List.getElem?_set_ne e];simp[hi,Ne.symm e]
  ·cases j with
   |zero=>simp at hx;subst hx;rw[hto];simp
   |succ j=>simp at hx
  ·cases j with
   |zero=>omega
   |succ j=>simp at hx
 obtain⟨d,h1,F,h2⟩:=d9 (step:=bK n a0 (List.replicate N (-1))) (fun h v=>BO a0.uses N to h v) (fun d=>∃ F,BI a0.uses N to F.length d F) N (fun h v ⟨_,_,_,_,_,hb⟩=>Nat.le_trans hb.hh hb.len) (fun h v hv=>abN (n:=n) (r1:=List.replicate N (-1)) hg hlr (by omega) v hv) n 0
  (((0:Nat):Int),(List.replicate N (-1:Int)).set to 0,[(to:Int)]) ⟨0,[to],rfl,Nat.zero_le _,rfl,hb0⟩ (by omega)
 refine⟨d,F,?_,h2⟩;have hdl:d.length=N:=h2.dl;simp only[eZ,hd,hr,bind_some,hlr,bR ht,cK (show to < (List.replicate N (-1:Int)).length by omega),cond_true,show (((0:Nat):Int)+(to:Int)).toNat=to by omega,h1];simp[eqL,sub,hdl];exact take_of_length_le (by omega)
def Nr (d:List Int) (l:List Int) (w:Int):Prop:=
 (w= -1∧∀ k∈l,d.getD k.toNat 0 < 0)∨(w∈l∧0<=d.getD w.toNat 0∧∀ k∈l,0<=d.getD k.toNat 0->d.getD w.toNat 0<=d.getD k.toNat 0)
theorem Nr.snoc {d l:List Int} {w k:Int} (h:Nr d l w) (hk:0<=k) (hl:∀ x∈l,0<=x):Nr d (l++[k]) (if 0<=d.getD k.toNat 0∧(w < 0∨d.getD k.toNat 0 < d.getD w.toNat 0)then k else w):=by
 split
 ·rename_i h1;refine .inr ⟨by simp,h1.1,fun z hz h0=>?_⟩;rw[mem_append]at hz;rcases hz with hz |hz
  ·rcases h with ⟨rfl,h⟩ |⟨hw,hw0,h⟩
   ·have:=h z hz;omega
   ·have h2:=h z hz h0;have:=hl w hw;rcases h1.2 with h3 |h3<;>omega
  ·simp at hz;subst hz;exact Int.le_refl _
 ·rename_i h1;rcases h with ⟨rfl,h⟩ |⟨hw,hw0,h⟩
  ·refine .inl ⟨rfl,fun z hz=>?_⟩;rw[mem_append]at hz;rcases hz with hz |hz
   ·exact h z hz
   ·simp at hz;subst hz;exact Int.not_le.1 fun h2=>h1 ⟨h2,.inl (by omega)⟩
  ·refine .inr ⟨List.mem_append_left _ hw,hw0,fun z hz h0=>?_⟩;rw[mem_append]at hz;rcases hz with hz |hz
   ·exact h z hz h0
   ·simp at hz;subst hz;exact Int.not_lt.1 fun h2=>h1 ⟨h0,.inr h2⟩
theorem abO {n N:Nat} {d l:List Int} (hd:d.length=N) (hl:l.length<=4000000) (hr:∀ k∈l,0<=k∧k < (N:Int)) (hn:4000001<=n):∃ w,iter (dO d l) n ((-1:Int),(0:Int))=some w∧Nr d l w:=by
 refine d9 (fun i (v:Int×Int)=>i<=l.length∧v.2=(i:Int)∧Nr d (l.take i) v.1) (fun w=>Nr d l w) l.length (fun k v h=>h.1) ?_ n 0 _ ⟨Nat.zero_le _,rfl,.inl ⟨rfl,by simp⟩⟩ (by omega);rintro i ⟨v3,v4⟩ ⟨hi,rfl,hN⟩;by_cases hlt:i < l.length
 ·left;have hk:=hr l[i] (getElem_mem hlt);obtain⟨k,hk2⟩:=Int.eq_ofNat_of_zero_le hk.1;have hkN:k < d.length:=by omega
  have hgk:d[k]=d.getD k 0:=by simp[List.getD,hkN]
  have htk:l.take (i+1)=l.take i++[l[i]]:=by rw[List.take_add_one,List.getElem?_eq_getElem hlt];rfl
  have hlk:∀ x∈l.take i,0<=x:=fun x hx=>(hr x (List.mem_of_mem_take hx)).1;have hsn:=hN.snoc hk.1 hlk;refine⟨(if 0<=d.getD (l[i]).toNat 0∧(v3 < 0∨d.getD (l[i]).toNat 0 < d.getD v3.toNat 0)then l[i]else v3,((i+1:Nat):Int)),?_,hlt,rfl,by rw[htk];exact hsn⟩;simp only[dO,show decide ((i:Int) < (l.length:Int))=true from by simp;omega,cond_true,aN hlt,bind_some,hk2,bR hkN,cK hkN,hgk,Int.toNat_natCast,au (show i < 9223372036854775807 by omega)];by_cases h0:0<=d.getD k 0
  ·by_cases h1:v3 < 0
   ·simp only[h0,h1,ge_iff_le,decide_true,cond_true,bind_some,true_and,true_or,if_true]
   ·have hv:v3∈l.take i:=by
     rcases hN with ⟨rfl,_⟩ |⟨h,_⟩
     ·omega
     ·exact h
    have hvr:=hr v3 (List.mem_of_mem_take hv);obtain⟨z,hz⟩:=Int.eq_ofNat_of_zero_le hvr.1;subst hz;have hzN:z < d.length:=(by omega);have hgz:d[z]=d.getD z 0:=(by simp[List.getD,hzN]);simp only[h0,ge_iff_le,decide_true,cond_true,h1,decide_false,cond_false,bR hzN,cK hzN,bind_some,hgz,Int.toNat_natCast,true_and,false_or];by_cases h2:d.getD k 0 < d.getD z 0
    ·simp only[h2,decide_true,cond_true,if_true,bind_some]
    ·simp only[h2,decide_false,cond_false,if_false,bind_some]
  ·simp only[h0,ge_iff_le,decide_false,cond_false,bind_some,false_and,if_false]
 ·right;refine⟨v3,?_,?_⟩
  ·simp only[dO,show decide ((i:Int) < (l.length:Int))=false from by simp;omega,cond_false]
  ·rw[take_of_length_le (by omega)]at hN;exact hN
theorem BI.step {us:List (List Int)} {N to h:Nat} {d:List Int} {F:List Nat} (b:BI us N to h d F) {x:Nat} (hx:x < N) (hne:x≠to) (h0:0<=d.getD x 0):∃ y:Nat,(y:Int)∈us.getD x []∧d.getD y 0=d.getD x 0 - 1∧0<=d.getD y 0:=by
 obtain⟨j,hj,hjx⟩:=mem_iff_getElem.1 ((b.mem x hx).1 h0);have hj':F[j]? =some x:=by rw[List.getElem?_eq_getElem hj,hjx]
 have hj0:0 < j:=by
  cases j with
  |zero=>rw[b.hd.1]at hj';cases hj';exact absurd rfl hne
  |succ j=>exact Nat.succ_pos _
 obtain⟨p,y,_,h2,h3,h4⟩:=b.pre j x hj' hj0;have hyF:=List.mem_of_getElem? h2;exact⟨y,h3,h4,(b.mem y (b.rg y hyF)).2 hyF⟩
theorem Y1 {n N fr:Nat} {a1:List iM} {us:List (List Int)} (hg:Oe us N) (hd:a1.length=N) (hn:4000003<=n) (hf:fr < N):∃ d F c,BI us N fr F.length d F∧fq n fr a1 us=some (a1,us,c)∧c.length<=N+1∧(c=[]->∀ k∈us.getD fr [],d.getD k.toNat 0 < 0):=by
 obtain⟨d,F,hdi,hb⟩:=Rt (n:=n) (a0:=jR.mk a1 us) hg hd (by omega) hf;have hN:=hg.2.1;have hul:=hg.1;have hmx:maxLen=9223372036854775807:=rfl;have hloop:∃ o,iter (fZ n fr a1 us d) n ((fr:Int),([]:List ByteArray))=some o∧∃ c,o= .inr (a1,us,c)∧c.length<=N+1∧(c=[]->∀ k∈us.getD fr [],d.getD k.toNat 0 < 0):=by
  refine d9 (fun k (v:Int×List ByteArray)=>∃ at_:Nat,v.1=(at_:Int)∧at_ < N∧v.2.length=k∧k<=N∧((k=0∧at_=fr)∨(0 < k∧at_≠fr∧0<=d.getD at_ 0∧d.getD at_ 0+k<=N))) _ N (fun k v ⟨_,_,_,_,h,_⟩=>h) ?_ n 0 _ ⟨fr,rfl,hf,rfl,Nat.zero_le _,.inl ⟨rfl,rfl⟩⟩ (by omega);rintro k ⟨v1,v2⟩ ⟨x,rfl,hx,hv2,hkN,hst⟩;simp only at hv2;have hxa:x < a1.length:=by omega
  have hxu:x < us.length:=by omega
  have hl:=hg.2.2 us[x] (getElem_mem hxu);obtain⟨w,hw,hnr⟩:=abO (n:=n) (d:=d) (l:=us[x]) hb.dl hl.1 hl.2 (by omega);have hgu:us.getD x []=us[x]:=by simp[List.getD,hxu]
  have hap:bO v2.length v2.length (sub [a1[x].name] 0 1).length 1 16=true:=by simp[bO,sub];omega
  simp only[fZ,aN hxa,aN hxu,bind_some,hap,cond_true,fO,hw];have hsl:(v2++sub [a1[x].name] 0 1).length=k+1:=by simp[sub,hv2]
  have hne:((v2++sub [a1[x].name] 0 1).length==0)=false:=by rw[hsl];simp
  rcases hnr with ⟨rfl,hno⟩ |⟨hwm,hw0,hmin⟩
  ·right;refine⟨.inr (a1,us,[]),by simp[eqL],[],rfl,by simp,fun _=>?_⟩;rcases hst with ⟨_,rfl⟩ |⟨_,hxf,hx0,_⟩
   ·rw[hgu];exact hno
   ·obtain⟨y,hy,_,hy0⟩:=hb.step hx hxf hx0;have hy':(y:Int)∈us[x]:=(by rw[<- hgu];exact hy);have:=hno _ hy';simp only[Int.toNat_natCast]at this;omega
  ·have hwr:=hl.2 w hwm;obtain⟨z,rfl⟩:=Int.eq_ofNat_of_zero_le hwr.1;simp only[Int.toNat_natCast]at hw0 hmin;by_cases hzf:z=fr
   ·right;subst hzf;refine⟨.inr (a1,us,v2++sub [a1[x].name] 0 1),?_,_,rfl,by omega,fun h=>by rw[h]at hsl;simp at hsl⟩;simp only[show decide ((z:Int) < 0)=false from by simp,cond_false,beq_self_eq_true,cond_true,hne,Bool.not_false,Bool.true_and,aC,Option.map_some]
   ·left;have hzN:z < N:=(by omega);have hb1:d.getD z 0+((k+1:Nat):Int)<=N:=by
     rcases hst with ⟨hk0,rfl⟩ |⟨_,hxf,hx0,hle⟩
     ·have hzF:=(hb.mem z hzN).1 hw0;obtain⟨j,hj,hjz⟩:=mem_iff_getElem.1 hzF;have h3:=hb.ub j z (by rw[List.getElem?_eq_getElem hj,hjz]);have:=hb.len;omega
     ·obtain⟨y,hy,hyd,hy0⟩:=hb.step hx hxf hx0;have:=hmin y (by rw[<- hgu];exact hy) (by simpa using hy0);simp only[Int.toNat_natCast]at this;omega
    refine⟨((z:Int),v2++sub [a1[x].name] 0 1),?_,z,rfl,hzN,hsl,by omega,.inr ⟨Nat.succ_pos _,hzf,hw0,hb1⟩⟩;simp only[show decide ((z:Int) < 0)=false from by simp,cond_false,show ((z:Int)==(fr:Int))=false from by simp;omega,aC,cond_true]
 obtain⟨o,h1,c,rfl,h2⟩:=hloop;refine⟨d,F,c,hb,?_,h2⟩;simp only[fq,hdi,bind_some,h1];simp[eqL]
theorem Ru (a b:ByteArray):∃ r,jf a b=some r:=by
 simp only[jf,cmp_isNaN_string,bind_some];cases (!a.toList==a.toList)<;>cases (!b.toList==b.toList)<;>cases K3 a b<;>cases (a.toList==b.toList)<;>exact⟨_,rfl⟩
theorem Rv {n:Nat} {a b:List ByteArray} (ha:a.length<=5000000) (hn:5000001<=n):∃ r,gW n a b=some r:=by
 obtain⟨o,h,_⟩:=d9 (step:=gV a b) (fun i (v:Int)=>v=(i:Int)∧i<=a.length) (fun _=>True) a.length (fun k v h=>h.2) (by
  rintro i v ⟨rfl,hi⟩;by_cases hlt:i < a.length
  ·simp only[gV,show decide ((i:Int) < (a.length:Int))=true from by simp;omega,cond_true,aN hlt,bind_some];by_cases hb:i < b.length
   ·obtain⟨r,hr⟩:=Ru a[i] b[i];simp only[show decide ((i:Int)>=(b.length:Int))=false from by simp;omega,cond_false,aN hb,bind_some,hr];cases hr0:(r != (0:Int))with
    |true=>exact .inr ⟨_,rfl,trivial⟩
    |false=>exact .inl ⟨_,rfl,by rw[au (by omega)],by omega⟩
   ·simp only[show decide ((i:Int)>=(b.length:Int))=true from by simp;omega,cond_true];exact .inr ⟨_,rfl,trivial⟩
  ·simp only[gV,show decide ((i:Int) < (a.length:Int))=false from by simp;omega,cond_false];exact .inr ⟨_,rfl,trivial⟩) n 0 0 ⟨rfl,Nat.zero_le _⟩ (by omega)
 simp only[gW,h];cases o with
 |inl u=>cases u;simp only[iH];cases decide ((a.length:Int) < (b.length:Int))<;>exact⟨_,rfl⟩
 |inr r=>exact⟨r,by simp⟩
def Free (us:List (List Int)) (N j:Nat):Prop:=∃ d F,BI us N j F.length d F∧∀ k∈us.getD j [],d.getD k.toNat 0 < 0
theorem Ub {n N:Nat} {a0:List iM} {us:List (List Int)} (hg:Oe us N) (hd:a0.length=N) (hn:5000003<=n):∃ c,dX n a0 us=some (a0,us,c)∧(c=[]->∀ j,j < N->Free us N j):=by
 have hN:=hg.2.1
 obtain⟨o,h1,c,rfl,h2⟩:=d9 (step:=dD n a0) (fun i (v:Int×List iM×List (List Int)×List ByteArray)=>∃ c,v=((i:Int),a0,us,c)∧i<=N∧c.length<=N+1∧(c=[]->∀ j,j < i->Free us N j))
  (fun o=>∃ c,o=(a0,us,c)∧(c=[]->∀ j,j < N->Free us N j)) N (fun k v ⟨_,_,h,_⟩=>h) (by
  rintro i v ⟨c,rfl,hi,hcl,hc⟩;by_cases hlt:i < N
  ·left;obtain⟨d,F,c2,hb,hci,hc2l,hc2⟩:=Y1 (n:=n) (a1:=a0) hg hd (by omega) hlt;simp only[dD,show decide ((i:Int) < (a0.length:Int))=true from by simp;omega,cond_true,hci,bind_some,au (show i < 9223372036854775807 by omega),bS,aC];have hfin:∀ c':List ByteArray,c'.length<=N+1->(c'=[]->c=[]∧c2=[])->∃ c'',(((i+1:Nat):Int),a0,us,c')=(((i+1:Nat):Int),a0,us,c'')∧i+1<=N∧c''.length<=N+1∧(c''=[]->∀ j,j < i+1->Free us N j):=fun c' hl' he=>
    ⟨c',rfl,hlt,hl',fun e j hj=>by
     obtain⟨e1,e2⟩:=he e;by_cases h:j=i
     ·subst h;exact⟨d,F,hb,hc2 e2⟩
     ·exact hc e1 j (by omega)⟩
   obtain⟨r,hr⟩:=Rv (n:=n) (a:=c2) (b:=c) (by omega) (by omega);cases h0:(c2.length==0)with
   |true=>
    have e2:c2=[]:=List.eq_nil_of_length_eq_zero (by simpa using h0);exact⟨_,by simp only[cond_true,bind_some],hfin c hcl fun e=>⟨e,e2⟩⟩
   |false=>
    have hne:c2≠[]:=fun e=>(by rw[e]at h0;simp at h0);simp only[cond_false,bind_some];have key:∃ b,(bif c.length==0 then some true else bif decide ((c2.length:Int) < (c.length:Int))then some true else bif (c2.length:Int)==(c.length:Int)then (gW n c2 c).bind fun r2=>some (decide (r2 < 0))else some false)=some b∧(c.length=0->b=true):=by
     cases h3:(c.length==0)with
     |true=>exact⟨true,rfl,fun _=>rfl⟩
     |false=>
      have hcn:c.length≠0:=(by simpa using h3);simp only[cond_false,hr,bind_some];cases decide ((c2.length:Int) < (c.length:Int))<;>cases ((c2.length:Int)==(c.length:Int))<;>exact⟨_,rfl,fun e=>absurd e hcn⟩
    obtain⟨b,hb1,hb2⟩:=key;rw[hb1];cases b with
    |true=>exact⟨_,by simp only[cond_true,bind_some],hfin c2 hc2l fun e=>absurd e hne⟩
    |false=>exact⟨_,by simp only[cond_false,bind_some],hfin c hcl fun e=>by rw[e]at hb2;exact absurd (hb2 rfl) (by simp)⟩
  ·right;refine⟨(a0,us,c),?_,c,rfl,fun e j hj=>hc e j (by omega)⟩;simp only[dD,show decide ((i:Int) < (a0.length:Int))=false from by simp;omega,cond_false,aC,cond_true]) n 0 ((0:Int),a0,us,[]) ⟨[],rfl,Nat.zero_le _,by simp,fun _ j hj=>absurd hj (Nat.not_lt_zero _)⟩ (by omega)
 exact⟨c,by simp[dX,h1,eqL],h2⟩
theorem BI.back {us:List (List Int)} {N to:Nat} {d:List Int} {F:List Nat} (b:BI us N to F.length d F) {i y:Nat} (hi:i < N) (hy:y < N) (h:(y:Int)∈us.getD i []) (h0:0<=d.getD y 0):0<=d.getD i 0:=by
 obtain⟨j,hj,hjy⟩:=mem_iff_getElem.1 ((b.mem y hy).1 h0);exact b.cl j y hj (by rw[List.getElem?_eq_getElem hj,hjy]) i hi h
theorem abP {us:List (List Int)} {N:Nat} (hg:Oe us N) (hf:∀ j,j < N->Free us N j) (done:Nat->Prop) {i0:Nat} (h0:i0 < N) (hd0:¬ done i0):∃ i,i < N∧¬ done i∧∀ k∈us.getD i [],done k.toNat:=by
 refine Classical.byContradiction fun hno=>?_;have hstep:∀ i:{i:Nat // i < N∧¬ done i},∃ k:{k:Nat // k < N∧¬ done k},(k.1:Int)∈us.getD i.1 []:=by
  rintro⟨i,hi,hnd⟩;refine Classical.byContradiction fun h=>hno ⟨i,hi,hnd,fun k hk=>Classical.byContradiction fun hkd=>h ?_⟩;have hl:us.getD i []∈us:=by
   have:i < us.length:=(by rw[hg.1];exact hi);simp[List.getD,this]
  have hr:=(hg.2.2 _ hl).2 k hk;exact⟨⟨k.toNat,by omega,hkd⟩,by show ((k.toNat:Nat):Int)∈_;rw[Int.toNat_of_nonneg hr.1];exact hk⟩
 obtain⟨f,hfs⟩:=Classical.axiomOfChoice hstep
 let g:Nat->{i:Nat // i < N∧¬ done i}:=fun j=>Nat.rec ⟨i0,h0,hd0⟩ (fun _ x=>f x) j
 have hgs:∀ j,((g (j+1)).1:Int)∈us.getD (g j).1 []:=fun j=>hfs (g j);have hnd:¬ ((List.range (N+1)).map fun j=>(g j).1).Nodup:=fun h=>by
  have:=Bj N _ h fun y hy=>by
   obtain⟨j,_,rfl⟩:=mem_map.1 hy;exact (g j).2.1
  rw[length_map,List.length_range]at this;omega
 obtain⟨a,b,hab,he⟩:∃ a b,a < b∧(g a).1=(g b).1:=by
  refine Classical.byContradiction fun h=>hnd ?_;rw[List.nodup_iff_pairwise_ne,List.pairwise_map];exact List.pairwise_lt_range.imp fun {x y} hxy e=>h ⟨x,y,hxy,e⟩
 obtain⟨d,F,hb,hneg⟩:=hf _ (g a).2.1;have hall:∀ c,a < b - c->c < b - a->0<=d.getD (g (b - c)).1 0:=by
  intro c
  induction c with
  |zero=>intro _ _;rw[Nat.sub_zero,<- he,hb.hd.2];exact Int.le_refl _
  |succ c ih=>
   intro h1 h2;have:=ih (by omega) (by omega);have e:b - c=b - (c+1)+1:=(by omega);rw[e]at this;exact hb.back (g (b - (c+1))).2.1 (g (b - (c+1)+1)).2.1 (hgs (b - (c+1))) this
 have h1:=hall (b - a - 1) (by omega) (by omega);have e:b - (b - a - 1)=a+1:=by omega
 rw[e]at h1;have h2:=hneg _ (hgs a);simp only[Int.toNat_natCast]at h2;omega
theorem Uc {n N:Nat} {l:List Int} {done:List Bool} (hd:done.length=N) (hl:l.length<=4000000) (hr:∀ k∈l,0<=k∧k < (N:Int)) (hn:4000001<=n):
 ∃ r,dJ n l done=some (r,done)∧(r=false↔∀ k∈l,done.getD k.toNat false=true):=by
 obtain⟨o,h1,h2⟩:=d9 (step:=fe l) (fun i (v:Int×List Bool)=>v=((i:Int),done)∧i<=l.length∧∀ k∈l.take i,done.getD k.toNat false=true)
  (fun o=>(o= .inl done∧∀ k∈l,done.getD k.toNat false=true)∨∃ i:Nat,o= .inr ((i:Int),done)∧∃ k∈l,done.getD k.toNat false=false) l.length (fun k v h=>h.2.1) (by
  rintro i v ⟨rfl,hi,hall⟩;by_cases hlt:i < l.length
  ·have hk:=hr l[i] (getElem_mem hlt);obtain⟨k,hk2⟩:=Int.eq_ofNat_of_zero_le hk.1;have hkN:k < done.length:=(by omega);have hgk:done[k]=done.getD k false:=(by simp[List.getD,hkN]);have htk:l.take (i+1)=l.take i++[l[i]]:=(by rw[List.take_add_one,List.getElem?_eq_getElem hlt];rfl);simp only[fe,show decide ((i:Int) < (l.length:Int))=true from by simp;omega,cond_true,aN hlt,bind_some,aC,hk2,iC,bR hkN,cK hkN,hgk];cases hdk:done.getD k false with
   |true=>
    refine .inl ⟨_,by simp only[Bool.not_true,cond_false];rfl,by rw[au (by omega)],hlt,fun z hz=>?_⟩;rw[htk,mem_append]at hz;rcases hz with hz |hz
    ·exact hall z hz
    ·simp only[mem_singleton]at hz;rw[hz,hk2];simpa using hdk
   |false=>exact .inr ⟨_,by simp only[Bool.not_false,cond_true,Option.map_some],.inr ⟨i,rfl,l[i],getElem_mem hlt,by rw[hk2];simpa using hdk⟩⟩
  ·refine .inr ⟨.inl done,?_,.inl ⟨rfl,by rw[take_of_length_le (by omega)]at hall;exact hall⟩⟩;simp only[fe,show decide ((i:Int) < (l.length:Int))=false from by simp;omega,cond_false,aC,cond_true]) n 0 ((0:Int),done) ⟨rfl,Nat.zero_le _,by simp⟩ (by omega)
 rcases h2 with ⟨rfl,h2⟩ |⟨i,rfl,k,hk,hkd⟩
 ·exact⟨false,by simp[dJ,iF,h1],fun _=>h2,fun _=>rfl⟩
 ·refine⟨true,by simp[dJ,iF,h1],fun h=>(by cases h),fun h=>?_⟩;rw[h k hk]at hkd;cases hkd
def NxI (us:List (List Int)) (N:Nat) (done:List Bool) (i:Nat) (w:Int):Prop:=
 (w= -1∧∀ j,j < i->¬ (done.getD j false=false∧∀ k∈us.getD j [],done.getD k.toNat false=true))∨∃ j:Nat,w=(j:Int)∧j < i∧done.getD j false=false
theorem aaP {n N:Nat} {a0:jR} {done:List Bool} (hg:Oe a0.uses N) (hd:a0.defs.length=N) (hl:done.length=N) (hn:4000002<=n):∃ w,iter (dP n a0) n ((-1:Int),(0:Int),done)=some (w,done)∧NxI a0.uses N done N w:=by
 have hN:=hg.2.1;have hul:=hg.1;obtain⟨o,h1,w,rfl,h2⟩:=d9 (step:=dP n a0) (fun i (v:Int×Int×List Bool)=>∃ w,v=(w,(i:Int),done)∧i<=N∧NxI a0.uses N done i w) (fun o=>∃ w,o=(w,done)∧NxI a0.uses N done N w) N (fun k v ⟨_,_,h,_⟩=>h) (by
  rintro i v ⟨w,rfl,hi,hw⟩;by_cases hlt:i < N
  ·left;have hiu:i < a0.uses.length:=(by omega);have hid:i < a0.defs.length:=(by omega);have hib:i < done.length:=(by omega);have hl2:=hg.2.2 a0.uses[i] (getElem_mem hiu);obtain⟨r,hr1,hr2⟩:=Uc (n:=n) hl hl2.1 hl2.2 (by omega);have hgi:a0.uses.getD i []=a0.uses[i]:=(by simp[List.getD,hiu]);have hdi:done[i]=done.getD i false:=(by simp[List.getD,hib]);simp only[dP,show decide ((i:Int) < (a0.uses.length:Int))=true from by simp;omega,cond_true,aN hiu,bind_some,aC,hr1,bR hib,cK hib,hdi,au (show i < 9223372036854775807 by omega)];have keep:(done.getD i false=true∨r=true)->NxI a0.uses N done (i+1) w:=by
    intro hno;rcases hw with ⟨rfl,hw⟩ |⟨j,rfl,hj,hw⟩
    ·refine .inl ⟨rfl,fun j hj h=>?_⟩;by_cases e:j=i
     ·subst e;rw[hgi]at h;rcases hno with h3 |h3
      ·rw[h3]at h;exact absurd h.1 (by simp)
      ·have:=hr2.2 h.2;rw[h3]at this;cases this
     ·exact hw j (by omega) h
    ·exact .inr ⟨j,rfl,by omega,hw⟩
   cases hdn:done.getD i false with
   |true=>exact⟨_,by simp only[Bool.not_true,cond_false,bind_some],w,rfl,hlt,keep (.inl hdn)⟩
   |false=>
    cases r with
    |true=>exact⟨_,by simp only[Bool.not_false,Bool.not_true,cond_true,cond_false,bind_some],w,rfl,hlt,keep (.inr rfl)⟩
    |false=>
     have new:NxI a0.uses N done (i+1) i:= .inr ⟨i,rfl,by omega,hdn⟩;rcases hw with ⟨rfl,hw⟩ |⟨j,rfl,hj,hw⟩
     ·exact⟨_,by simp only[Bool.not_false,cond_true,show decide ((-1:Int) < 0)=true from rfl,bind_some],_,rfl,hlt,new⟩
     ·have hjd:j < a0.defs.length:=(by omega);simp only[Bool.not_false,cond_true,show decide ((j:Int) < 0)=false from by simp,cond_false,aN hid,aN hjd,bind_some];cases K3 a0.defs[i].name a0.defs[j].name with
      |true=>exact⟨_,rfl,_,rfl,hlt,new⟩
      |false=>exact⟨_,rfl,_,rfl,hlt,.inr ⟨j,rfl,by omega,hw⟩⟩
  ·right;have hiN:i=N:=(by omega);refine⟨(w,done),?_,w,rfl,hiN ▸ hw⟩;simp only[dP,show decide ((i:Int) < (a0.uses.length:Int))=false from by simp;omega,cond_false,aC,cond_true]) n 0 ((-1:Int),(0:Int),done) ⟨_,rfl,Nat.zero_le _,.inl ⟨rfl,fun j hj=>absurd hj (Nat.not_lt_zero _)⟩⟩ (by omega)
 exact⟨w,h1,h2⟩
theorem aaQ {n N:Nat} {a0:jR} (hg:Oe a0.uses N) (hd:a0.defs.length=N) (hf:∀ j,j < N->Free a0.uses N j) (hn:4000002<=n):∃ l,jg n a0=some l∧l.length=N∧∀ k∈l,0<=k∧k < (N:Int):=by
 have hN:=hg.2.1;have hmx:maxLen=9223372036854775807:=rfl
 obtain⟨o,h1,h2⟩:=d9 (step:=fQ n a0) (fun c (v:Int×List Int×List Bool)=>∃ out done,v=((c:Int),out,done)∧c<=N∧out.length=c∧(∀ k∈out,0<=k∧k < (N:Int))∧done.length=N∧done.count false=N - c)
  (fun o=>o.length=N∧∀ k∈o,0<=k∧k < (N:Int)) N (fun k v ⟨_,_,_,h,_⟩=>h) (by
  rintro c v ⟨out,done,rfl,hc,hol,hor,hdl,hcf⟩;by_cases hlt:c < N
  ·left;obtain⟨w,hw1,hw2⟩:=aaP (n:=n) hg hd hdl hn;have hopen:∃ i0,i0 < N∧done.getD i0 false=false:=by
    have hm:false∈done:=List.count_pos_iff.1 (by omega);obtain⟨i0,h0,e⟩:=mem_iff_getElem.1 hm;exact⟨i0,by omega,by simp[List.getD,h0,e]⟩
   obtain⟨i0,h0,h0d⟩:=hopen;obtain⟨i,hi,hid,hia⟩:=abP hg hf (fun j=>done.getD j false=true) h0 (by rw[h0d];simp);rcases hw2 with ⟨rfl,hw2⟩ |⟨j,rfl,hj,hjd⟩
   ·exact absurd ⟨Bool.eq_false_iff.2 hid,hia⟩ (hw2 i hi)
   ·have hjl:j < done.length:=(by omega);have hap:bO out.length out.length (sub [(j:Int)] 0 1).length 1 8=true:=(by simp[bO,sub];omega);have hset:(done.set j true).length=done.length:=(by simp);refine⟨(((c+1:Nat):Int),out++[(j:Int)],done.set j true),?_,_,_,rfl,hlt,by simp[hol],?_,by simp[hdl],?_⟩
    ·simp only[fQ,show decide ((c:Int) < (a0.defs.length:Int))=true from by simp;omega,cond_true,aC,hw1,bind_some,bR hjl,cK hjl,hap,fO,au (show c < 9223372036854775807 by omega),show (((0:Nat):Int)+(j:Int)).toNat=j by omega,Mf hset.symm];simp[sub]
    ·intro k hk;rw[mem_append]at hk;rcases hk with hk |hk
     ·exact hor k hk
     ·simp at hk;subst hk;omega
    ·have hjf:done[j]=false:=(by simpa[List.getD,hjl]using hjd);rw[List.count_set hjl,hcf,hjf];simp;omega
  ·right;have:c=N:=(by omega);refine⟨out,?_,by omega,hor⟩;simp only[fQ,show decide ((c:Int) < (a0.defs.length:Int))=false from by simp;omega,cond_false,aC,cond_true]) n 0 ((0:Int),[],List.replicate N false) ⟨[],_,rfl,Nat.zero_le _,rfl,by simp,by simp,by simp⟩ (by omega)
 refine⟨o,?_,h2⟩;have hmk:ER (N:Int) 1=true:=by simp[ER];omega
 simp only[jg,hd,Int.le_refl,decide_true,Bool.true_and,show decide ((0:Int)<=(N:Int))=true from by simp,hmk,cond_true,Int.toNat_natCast,h1,bind_some,bS,aC];simp[eqL]
def mrg (out:List aB) (s:aB):List aB:=
 match out.getLast? with
 |some q=>bif decide (s.from_<=q.to)then out.dropLast++[⟨q.from_,max q.to s.to⟩]else out++[s]
 |none=>[s]
theorem MJ (out:List aB) (s:aB):(mrg out s).length<=out.length+1:=by
 unfold mrg;cases out.getLast? with
 |none=>simp
 |some q=>simp only;cases decide (s.from_<=q.to)<;>simp<;>omega
theorem Wh (o:List aB) (q s:aB):mrg (o++[q]) s=bif decide (s.from_<=q.to)then o++[⟨q.from_,max q.to s.to⟩]else o++[q]++[s]:=by simp[mrg]
abbrev OkS (s:aB):Prop:=s.from_ < s.to
def inS (l:List aB) (y:Int):Bool:=l.any fun s=>decide (s.from_<=y)&&decide (y < s.to)
def Can (l:List aB):Prop:=l.Pairwise (fun a b=>a.to < b.from_)∧∀ s∈l,OkS s
theorem Rw (l:List aB) (y:Int):inS l y=true↔∃ s∈l,s.from_<=y∧y < s.to:=by simp[inS]
theorem yV (l m:List aB) (y:Int):inS (l++m) y=(inS l y || inS m y):=by simp[inS]
theorem Cj (y:Int):inS [] y=false:=rfl
theorem jX (s:aB) (l:List aB) (y:Int):inS (s::l) y=((decide (s.from_<=y)&&decide (y < s.to)) || inS l y):=by simp[inS]
theorem Ud {l m:List aB} (h:l.Perm m) (y:Int):inS l y=inS m y:=by
 rw[Bool.eq_iff_iff,Rw,Rw];exact⟨fun ⟨s,hs,h1⟩=>⟨s,h.mem_iff.1 hs,h1⟩,fun⟨s,hs,h1⟩=>⟨s,h.mem_iff.2 hs,h1⟩⟩
theorem XR:Can []:=⟨List.Pairwise.nil,by simp⟩
theorem aaR {out:List aB} {s:aB} (hc:Can out) (hs:OkS s) (hb:∀ o∈out,o.from_<=s.from_):
 Can (mrg out s)∧(∀ o∈mrg out s,o.from_<=s.from_)∧∀ y,inS (mrg out s) y=(inS out y || inS [s] y):=by
 rcases List.eq_nil_or_concat out with rfl |⟨o,q,rfl⟩
 ·refine⟨⟨by simp[mrg],by simp[mrg];exact hs⟩,by simp[mrg],fun y=>by simp[mrg,inS]⟩
 ·rw[List.concat_eq_append]at*;obtain⟨h1,h2⟩:=hc;rw[pairwise_append]at h1;obtain⟨p1,_,p3⟩:=h1;have hq:OkS q:=h2 q (by simp);have hqs:q.from_<=s.from_:=hb q (by simp);rw[Wh];by_cases hj:s.from_<=q.to
  ·simp only[hj,decide_true,cond_true];refine⟨⟨?_,?_⟩,?_,?_⟩
   ·rw[pairwise_append];refine⟨p1,by simp,fun a ha b hb'=>?_⟩;rw[mem_singleton]at hb';subst hb';exact p3 a ha q (by simp)
   ·intro a ha;rcases mem_append.1 ha with ha |ha
    ·exact h2 a (by simp[ha])
    ·rw[mem_singleton]at ha;subst ha;show q.from_ < max q.to s.to;have:q.from_ < q.to:=hq;omega
   ·intro a ha;rcases mem_append.1 ha with ha |ha
    ·exact hb a (by simp[ha])
    ·rw[mem_singleton]at ha;subst ha;exact hqs
   ·intro y;rw[yV,yV,Bool.or_assoc];congr 1;simp only[jX,Cj,Bool.or_false];rw[Bool.eq_iff_iff];simp only[and_eq_true,Bool.or_eq_true,decide_eq_true_eq];have:q.from_ < q.to:=hq;have:s.from_ < s.to:=hs;omega
  ·simp only[hj,decide_false,cond_false];refine⟨⟨?_,?_⟩,?_,?_⟩
   ·rw[pairwise_append];refine⟨?_,by simp,fun a ha b hb'=>?_⟩
    ·rw[pairwise_append];exact⟨p1,by simp,p3⟩
    ·rw[mem_singleton]at hb';subst hb';rcases mem_append.1 ha with ha |ha
     ·have:=p3 a ha q (by simp);have:q.from_ < q.to:=hq;omega
     ·rw[mem_singleton]at ha;subst ha;omega
   ·intro a ha;rcases mem_append.1 ha with ha |ha
    ·exact h2 a ha
    ·rw[mem_singleton]at ha;subst ha;exact hs
   ·intro a ha;rcases mem_append.1 ha with ha |ha
    ·exact hb a ha
    ·rw[mem_singleton]at ha;subst ha;exact Int.le_refl _
   ·intro y;rw[yV]
theorem Hw:∀ (l out:List aB),Can out->(∀ s∈l,OkS s)->l.Pairwise (fun x y=>x.from_<=y.from_)->(∀ o∈out,∀ s∈l,o.from_<=s.from_)->Can (l.foldl mrg out)∧∀ y,inS (l.foldl mrg out) y=(inS out y || inS l y)
 |[],out,hc,_,_,_=>⟨hc,fun y=>by simp[Cj]⟩
 |s::l,out,hc,hv,hp,hb=>by
  rw[pairwise_cons]at hp;obtain⟨m1,m2,m3⟩:=aaR hc (hv s (by simp)) (fun o ho=>hb o ho s (by simp));obtain⟨f1,f2⟩:=Hw l (mrg out s) m1 (fun t ht=>hv t (by simp[ht])) hp.2 (fun o ho t ht=>Int.le_trans (m2 o ho) (hp.1 t ht));refine⟨f1,fun y=>?_⟩;rw[foldl_cons,f2,m3,Bool.or_assoc,<- yV];rfl
theorem Ue {a:aB} {l:List aB} (h:Can (a::l)):Can l:=⟨(pairwise_cons.1 h.1).2,fun s hs=>h.2 s (by simp[hs])⟩
theorem Ck {a:aB} {l:List aB} (h:Can (a::l)) {y:Int} (hy:inS l y=true):a.to < y:=by
 obtain⟨s,hs,h1,_⟩:=(Rw _ _).1 hy;have:=(pairwise_cons.1 h.1).1 s hs;omega
theorem PW {a:aB} {l:List aB} (h:Can (a::l)) {y:Int} (hy:inS (a::l) y=true):a.from_<=y:=by
 rw[jX,Bool.or_eq_true]at hy;rcases hy with hy |hy
 ·simp only[and_eq_true,decide_eq_true_eq]at hy;exact hy.1
 ·have:=Ck h hy;have:a.from_ < a.to:=h.2 a (by simp);omega
theorem MK:∀ {l m:List aB},Can l->Can m->(∀ y,inS l y=inS m y)->l=m
 |[],[],_,_,_=>rfl
 |[],b::m,_,hm,h=>by
  have:=h b.from_;have hb:b.from_ < b.to:=hm.2 b (by simp);rw[Cj,jX]at this;simp[hb]at this
 |a::l,[],hl,_,h=>by
  have:=h a.from_;have ha:a.from_ < a.to:=hl.2 a (by simp);rw[Cj,jX]at this;simp[ha]at this
 |a::l,b::m,hl,hm,h=>by
  have ha:a.from_ < a.to:=hl.2 a (by simp);have hb:b.from_ < b.to:=hm.2 b (by simp);have ina:inS (a::l) a.from_=true:=by rw[jX];simp[ha]
  have inb':inS (b::m) b.from_=true:=by rw[jX];simp[hb]
  have e1:a.from_=b.from_:=by
   have h1:=PW hm (by rw[<- h];exact ina);have h2:=PW hl (by rw[h];exact inb');omega
  have nl:∀ (c:aB) (k:List aB),Can (c::k)->inS (c::k) c.to=false:=by
   intro c k hk;cases hc:inS (c::k) c.to with
   |false=>rfl
   |true=>
    rw[jX,Bool.or_eq_true]at hc;rcases hc with hc |hc
    ·simp at hc
    ·have:=Ck hk hc;omega
  have e2:a.to=b.to:=by
   rcases Int.lt_trichotomy a.to b.to with hlt |he |hlt
   ·have h1:=nl a l hl;rw[h,jX]at h1;simp only[Bool.or_eq_false_iff,Bool.and_eq_false_iff,decide_eq_false_iff_not]at h1;omega
   ·exact he
   ·have h1:=nl b m hm;rw[<- h,jX]at h1;simp only[Bool.or_eq_false_iff,Bool.and_eq_false_iff,decide_eq_false_iff_not]at h1;omega
  have e:a=b:=by cases a;cases b;simp only at e1 e2;rw[e1,e2]
  subst e;rw[MK (Ue hl) (Ue hm) fun y=>?_];have hy:=h y;rw[jX,jX]at hy;cases h1:inS l y with
  |true=>
   have:=Ck hl h1;have z:(decide (a.from_<=y)&&decide (y < a.to))=false:=(by rw[Bool.and_eq_false_iff,decide_eq_false_iff_not,decide_eq_false_iff_not];omega);rw[z,h1,Bool.false_or,Bool.false_or]at hy;rw[<- hy]
  |false=>
   cases h2:inS m y with
   |false=>rfl
   |true=>
    have:=Ck hm h2;have z:(decide (a.from_<=y)&&decide (y < a.to))=false:=(by rw[Bool.and_eq_false_iff,decide_eq_false_iff_not,decide_eq_false_iff_not];omega);rw[z,h1,h2]at hy;simp at hy
def Wi (l:List aB):List aB:=(mG ltS l).foldl mrg []
theorem aaS {l:List aB} (h:l.Pairwise fun x y=>ltS y x=false):l.Pairwise fun x y=>x.from_<=y.from_:=
 h.imp fun {x y} hxy=>by simp only[ltS,decide_eq_false_iff_not]at hxy;omega
theorem Y2 {l:List aB} (h:∀ s∈l,OkS s):Can (Wi l)∧∀ y,inS (Wi l) y=inS l y:=by
 have hp:=MI ltS l;obtain⟨h1,h2⟩:=Hw (mG ltS l) [] XR (fun s hs=>h s (hp.mem_iff.1 hs)) (aaS (isort_sorted FU l)) (by simp);exact⟨h1,fun y=>by rw[Wi,h2,Cj,Bool.false_or,Ud hp]⟩
theorem Y3 {l:List aB} (h:∀ s∈l,OkS s):(zB ltS l).foldl mrg []=Wi l:=by
 have hp:=DU FU l;obtain⟨h1,h2⟩:=Hw (zB ltS l) [] XR (fun s hs=>h s (hp.mem_iff.1 hs)) (aaS (Fy FU l)) (by simp);obtain⟨h3,h4⟩:=Y2 h;exact MK h1 h3 fun y=>by rw[h2,Cj,Bool.false_or,Ud hp,h4]
theorem Uf (l:List aB):(Wi l).length<=l.length:=by
 have:∀ (ys out:List aB),(ys.foldl mrg out).length<=out.length+ys.length:=by
  intro ys
  induction ys with
  |nil=>intro out;simp
  |cons y ys ih=>
   intro out;simp only[foldl_cons,length_cons];have:=ih (mrg out y);have:=MJ out y;omega
 have h:=this (mG ltS l) [];rw[cO]at h;simpa[Wi]using h
abbrev OkR (r:ak):Bool:=decide (0<=r.x0)&&(decide (r.x0 < r.x1)&&(decide (r.x1<=1048576)&&(decide (0<=r.y0)&&(decide (r.y0 < r.y1)&&decide (r.y1<=1048576)))))
theorem Bl (a b:Bool):(bif a then some b else some false)=some (a&&b):=by cases a<;>rfl
theorem acV (a b:Bool):(bif a then some true else some b)=some (a || b):=by cases a<;>rfl
theorem sW (r:ak):uQ r=some (OkR r):=by simp only[uQ,Bl]
def lG (l:List ak) (x:Int):List aB:=(l.filter fun r=>decide (r.x0<=x)&&decide (x < r.x1)).map fun r=>⟨r.y0,r.y1⟩
def ru (l:List ak) (x:Int):List aB:=Wi (lG l x)
theorem Bn (l:List ak) (x:Int):(lG l x).length<=l.length:=by simp only[lG,length_map];exact length_filter_le _ _
theorem ML (l:List ak) (x:Int):(ru l x).length<=l.length:=
 Nat.le_trans (Uf _) (Bn l x)
theorem adn {r:ak} (h:OkR r=true):r.y0 < r.y1:=by simp only[OkR,and_eq_true,decide_eq_true_eq]at h;omega
theorem Wj {l:List ak} (h:∀ r∈l,OkR r=true) (x:Int):∀ s∈lG l x,OkS s:=by
 intro s hs;simp only[lG,mem_map,mem_filter]at hs;obtain⟨r,⟨hr,_⟩,rfl⟩:=hs;exact adn (h r hr)
theorem Hy {l:List ak} {x:Int} (hl:l.length < 1099511627776) {n:Nat} (hn:l.length < n):iter (mR l x) n ((0:Int),([]:List aB))=some (lG l x):=by
 have:=lK (l:=l) (step:=mR l x) (fun i (s:List aB)=>((i:Int),s)) (fun r s=>bif decide (r.x0<=x)&&decide (x < r.x1)then s++[⟨r.y0,r.y1⟩]else s) (fun s=>s) (fun i s=>s.length<=i)
  (fun i hi s hs=>?_) (fun s hs=>by simp[mR]) n hn [] (Nat.le_refl _)
 ·rw[show ((0:Nat):Int)=0 from rfl]at this;rw[this];congr 1;have gen:∀ (ys:List ak) (s:List aB),ys.foldl (fun s r=>bif decide (r.x0<=x)&&decide (x < r.x1)then s++[⟨r.y0,r.y1⟩]else s) s=s++lG ys x:=by
   intro ys
   induction ys with
   |nil=>intro s;simp[lG]
   |cons y ys ih=>
    intro s;simp only[foldl_cons,ih];cases h:(decide (y.x0<=x)&&decide (x < y.x1))with
    |true=>simp[lG,h]
    |false=>simp[lG,h]
  simpa using gen l []
 ·have hi':decide (((i:Nat):Int) < (l.length:Int))=true:=by simpa using hi
  have ap:bO s.length s.length (sub ([(aB.mk l[i].y0 l[i].y1)]:List aB) 0 1).length 1 16=true:=eH (n:=1) (by omega) (by simp only[maxLen];omega);simp only[mR,hi',cond_true,aN hi,bind_some,Bl];cases h:(decide (l[i].x0<=x)&&decide (x < l[i].x1))with
  |true=>
   simp only[cond_true,ap,fO,aC,bind_some];refine⟨?_,by simp;omega⟩;rw[au (by omega)];rfl
  |false=>
   simp only[cond_false,aC,cond_true,bind_some];exact⟨by rw[au (by omega)],by omega⟩
theorem Hz {n:Nat} (w1 r2:List aB) (hw:w1.length=r2.length) (hl:r2.length < 1099511627776) (hn:r2.length < n):iter (mU w1 r2) n ((0:Int),([]:List aB))=some (r2.foldl mrg []):=by
 have:=lK (l:=r2) (step:=mU w1 r2) (fun i (s:List aB)=>((i:Int),s)) (fun r s=>mrg s r) (fun s=>s) (fun i s=>s.length<=i)
  (fun i hi s hs=>?_) (fun s hs=>by simp[mU,hw]) n hn [] (Nat.le_refl _)
 ·rw[show ((0:Nat):Int)=0 from rfl]at this;exact this
 ·refine⟨?_,by have:=MJ s r2[i];omega⟩;have hi':decide (((i:Nat):Int) < ((w1.length:Nat):Int))=true:=by simp;omega
  have ib:inb (i:Int) w1.length=true:=bR (by omega);have ap:bO s.length s.length (sub ([r2[i]]:List aB) 0 1).length 1 16=true:=eH (n:=1) (by omega) (by simp only[maxLen];omega);simp only[mU,hi',cond_true,ib,cK hi,bind_some];rcases List.eq_nil_or_concat s with rfl |⟨s0,q,hsq⟩
  ·have d0:decide (((([]:List aB).length:Nat):Int)>0)=false:=(by simp);simp only[d0,cond_false,bind_some,ap,cond_true,fO,aC];rw[au (by omega)];rfl
  ·rw[List.concat_eq_append]at hsq;subst hsq;have d0:decide (((((s0++[q]).length:Nat):Int))>0)=true:=(by simp<;>omega);have lenq:(s0++[q]).length=s0.length+1:=(by simp);have wp:i64.wrap ((((s0++[q]).length:Nat):Int) - 1)=((s0.length:Nat):Int):=(by rw[nV (by simp) (by omega),lenq];rfl);have ib2:inb ((s0.length:Nat):Int) (s0++[q]).length=true:=bR (by omega);have g:at? (s0++[q]) (((0:Nat):Int)+((s0.length:Nat):Int))=some q:=(by rw[yD];simp);have z:(((0:Nat):Int)+((s0.length:Nat):Int)).toNat=s0.length:=(by simp);have st:(s0++[q]).set s0.length (aB.mk q.from_ (max q.to r2[i].to))=s0++[⟨q.from_,max q.to r2[i].to⟩]:=(by simp);have m:mrg (s0++[q]) r2[i]=bif decide (r2[i].from_<=q.to)then s0++[⟨q.from_,max q.to r2[i].to⟩]else s0++[q]++[r2[i]]:=(by simp[mrg]);simp only[d0,cond_true,wp,ib2,g,bind_some,m,z,st];cases decide (r2[i].from_<=q.to)with
   |true=>
    have e:eqL (s0++[q]).length (s0++[(⟨q.from_,max q.to r2[i].to⟩:aB)]).length=true:=(by simp);simp only[cond_true,e,bind_some,aC];rw[au (by omega)]
   |false=>
    simp only[cond_false,ap,cond_true,fO,aC,bind_some];rw[au (by omega)];rfl
theorem Rx {n:Nat} {l:List ak} {x:Int} (hv:∀ r∈l,OkR r=true) (hl:l.length < 1099511627776) (hn:l.length < n):Cg n l x=some (ru l x):=by
 have h1:=Bn l x;have h2:(zB ltS (lG l x)).length=(lG l x).length:=Rh FU _;unfold Cg;simp only[length_nil,aC,cond_true,Hy (x:=x) (l:=l) (by omega) (n:=n) (by omega),bind_some];rw[Cx (fun a b=>if a.from_ < b.from_ then -1 else if b.from_ < a.from_ then 1 else 0) (fun a b=>by show q8 a b=_;unfold q8;rw[D7];rfl) (fun a b=>by
  by_cases h1:a.from_ < b.from_
  ·simp[h1]
  ·by_cases h2:b.from_ < a.from_<;>simp[h1,h2]) (by omega) (by omega)]
 simp only[bind_some];rw[Hz _ _ h2.symm (by omega) (by omega)];simp only[bind_some,bS,aC,cond_true];rw[Y3 (Wj hv x)];rfl
def gm (l:List ak):List Int:=VP (l.flatMap fun r=>[r.x0,r.x1])
def D8 {α:Type} (f:Int->Int->α):List Int->List α
 |a::b::l=>f a b::D8 f (b::l)
 |_=>[]
def bn (l:List ak):List cZ:=D8 (fun a b=>⟨a,b,ru l a⟩) (gm l)
theorem yX {α:Type} (f:Int->Int->α):∀ (l:List Int),(D8 f l).length=l.length - 1∧∀ i (h:i+1 < l.length) (h':i < (D8 f l).length),(D8 f l)[i]=f l[i] l[i+1]
 |[]=>⟨rfl,fun i h=>by simp at h⟩
 |[a]=>⟨rfl,fun i h=>by simp at h⟩
 |a::b::l=>by
  obtain⟨h1,h2⟩:=yX f (b::l);refine⟨by simp only[D8,length_cons,h1];simp,fun i h h'=>?_⟩;cases i with
  |zero=>rfl
  |succ i=>
   simp only[D8,List.getElem_cons_succ];exact h2 i (by simpa using h) _
theorem pW (l:List ak):(l.flatMap fun r=>[r.x0,r.x1]).length=2*l.length:=by
 induction l with
 |nil=>rfl
 |cons x l ih=>simp only[List.flatMap_cons,length_append,ih,length_cons,length_nil];omega
theorem qD (l:List Int):(fI l).length<=l.length:=by
 match l with
 |[]=>simp[fI]
 |[x]=>simp[fI]
 |x::y::l=>
  have:=qD (y::l);simp only[fI];cases x==y<;>simp at* <;>omega
theorem Dn (l:List ak):(gm l).length<=2*l.length:=by
 have h:=qD (mG (fun a b=>decide (a < b)) (l.flatMap fun r=>[r.x0,r.x1]));rw[cO,pW]at h;exact h
theorem HV {n:Nat} {l:List ak} (hl:l.length < 10995116277) (hn:l.length < n):iter (mV l) n ((0:Int),([]:List Int))=some (l.flatMap fun r=>[r.x0,r.x1]):=by
 have:=lK (l:=l) (step:=mV l) (fun i (s:List Int)=>((i:Int),s)) (fun r s=>s++[r.x0,r.x1]) (fun s=>s) (fun i s=>s.length<=2*i)
  (fun i hi s hs=>?_) (fun s hs=>by simp[mV]) n hn [] (Nat.le_refl _)
 ·rw[show ((0:Nat):Int)=0 from rfl]at this;rw[this];have gen:∀ (ys:List ak) (s:List Int),ys.foldl (fun s r=>s++[r.x0,r.x1]) s=s++ys.flatMap fun r=>[r.x0,r.x1]:=by
   intro ys
   induction ys with
   |nil=>intro s;simp
   |cons y ys ih=>intro s;simp[ih]
  congr 1;simpa using gen l []
 ·have hi':decide (((i:Nat):Int) < ((l.length:Nat):Int))=true:=by simpa using hi
  have ap:bO s.length s.length (sub ([l[i].x0,l[i].x1]:List Int) 0 2).length 2 8=true:=eH (n:=2) (by omega) (by simp only[maxLen];omega);simp only[mV,hi',cond_true,bR hi,cK hi,bind_some,ap,fO,aC];refine⟨?_,by simp;omega⟩;rw[au (by omega)];rfl
theorem FV {n:Nat} {ls:List (List ak)} (hv:∀ r∈ls.flatten,OkR r=true) (hl:ls.flatten.length < 10995116277) (hls:ls.length < 1099511627776) (hn:2*ls.flatten.length < n) (hn2:ls.length < n):rQ n ls=some (bn ls.flatten):=by
 unfold rQ;rw[FT (by omega) hls hn2];generalize ls.flatten=l at*;have he:=Dn l;simp only[bind_some,length_nil,aC,cond_true,HV (l:=l) (n:=n) (by omega) (by omega)];rw[sV (by rw[pW];omega) (by rw[pW];omega)];simp only[bind_some,cO,aC,cond_true];rw[ng (by rw[cO,pW];omega) (by rw[cO,pW];omega)];simp only[bind_some];have hE:fI (mG ltI (l.flatMap fun r=>[r.x0,r.x1]))=gm l:=rfl;rw[hE];obtain⟨p1,p2⟩:=yX (fun a b=>(⟨a,b,ru l a⟩:cZ)) (gm l);have key:iter (mW n l ((),gm l)) n ((1:Int),([]:List cZ))=some (bn l):=by
  have:=lu (step:=mW n l ((),gm l)) (fun i=>(((i+1:Nat):Int),(bn l).take i)) (bn l).length (bn l) (fun i hi=>?_) ?_ n (by unfold bn;omega)
  ·simpa using this
  ·have hi2:i+1 < (gm l).length:=(by unfold bn at hi;omega);have d:decide (((i+1:Nat):Int) < (((gm l).length:Nat):Int))=true:=(by simp;omega);have wp:i64.wrap (((i+1:Nat):Int) - 1)=((i:Nat):Int):=(by rw[nV (by omega) (by omega)];rfl);have ap:bO ((bn l).take i).length ((bn l).take i).length (sub ([(cZ.mk ((gm l)[i]'(by omega)) (gm l)[i+1] (ru l ((gm l)[i]'(by omega))))]:List cZ) 0 1).length 1 40=true:=by
    refine eH (n:=1) ?_ ?_
    ·rw[length_take];unfold bn;omega
    ·rw[length_take];unfold bn;simp only[maxLen];omega
   have tk:(bn l).take (i+1)=(bn l).take i++[⟨(gm l)[i]'(by omega),(gm l)[i+1],ru l ((gm l)[i]'(by omega))⟩]:=by
    rw[take_succ_eq_append_getElem hi];congr 2;exact p2 i hi2 hi
   simp only[mW,d,cond_true,wp,bR (show i < (gm l).length by omega),cK (show i < (gm l).length by omega),bind_some,bR hi2,cK hi2,bS,aC,Rx (l:=l) (n:=n) hv (by omega) (by omega),ap,fO];rw[au (by omega),tk];rfl
  ·have d:decide ((((bn l).length+1:Nat):Int) < (((gm l).length:Nat):Int))=false:=(by unfold bn;simp;omega);simp only[mW,d,cond_false,List.take_length,aC,cond_true]
 rw[key];simp only[bind_some,bS,aC,cond_true]
def yY (x0 x1:Int) (c:List aB):List ak:=c.map fun q=>⟨x0,q.from_,x1,q.to⟩
def Wl (x0 x1:Int) (c:List aB):List cZ->List ak
 |[]=>yY x0 x1 c
 |s::l=>if s.column=c then Wl x0 s.x1 c l else yY x0 x1 c++Wl s.x0 s.x1 s.column l
def iQ:List cZ->List ak
 |[]=>[]
 |s::l=>Wl s.x0 s.x1 s.column l
theorem PX (x0:Int) (c:List aB):∀ (l:List cZ) (x1:Int) (k:Nat) (hk:k<=l.length),(∀ j (hj:j < k),(l[j]'(by omega)).column=c)->(∀ h:k < l.length,l[k].column≠c)->
 Wl x0 x1 c l=yY x0 (if h:0 < k then (l[k - 1]'(by omega)).x1 else x1) c++iQ (l.drop k)
 |l,x1,0,_,_,h2=>by
  cases l with
  |nil=>simp[Wl,iQ]
  |cons s l=>
   have:=h2 (by simp);simp only[List.getElem_cons_zero]at this;simp[Wl,iQ,this]
 |[],x1,k+1,hk,_,_=>by simp at hk
 |s::l,x1,k+1,hk,h1,h2=>by
  have e0:=h1 0 (by omega);simp only[List.getElem_cons_zero]at e0;simp only[Wl,e0,if_true];rw[PX x0 c l s.x1 k (by simpa using hk) (fun j hj=>by have:=h1 (j+1) (by omega);simpa using this) (fun h=>by have:=h2 (by simpa using h);simpa using this)];simp only[List.drop_succ_cons];congr 2;by_cases hk0:0 < k
  ·simp only[hk0,dite_true,Nat.zero_lt_succ,Nat.add_sub_cancel];obtain⟨m,rfl⟩:∃ m,k=m+1:=⟨k - 1,by omega⟩;simp
  ·have:k=0:=(by omega);subst this;simp
theorem Jt {n:Nat} {l:List cZ} {i k:Nat} (hi:i < l.length) (hk1:0 < k) (hk:k<=l.length) (hl:l.length < 10995116277) (x3:cZ) (out:List ak) (ho:out.length < 1099511627776) (hc:x3.column.length < 1099511627776) (hn:x3.column.length < n):
 iter (pK l (i:Int) (k:Int) x3) n ((0:Int),out)=some (out++yY l[i].x0 (l[k - 1]'(by omega)).x1 x3.column):=by
 have:=lK (l:=x3.column) (step:=pK l (i:Int) (k:Int) x3) (fun j (s:List ak)=>((j:Int),s)) (fun q s=>s++[⟨l[i].x0,q.from_,(l[k - 1]'(by omega)).x1,q.to⟩]) (fun s=>s) (fun j s=>s.length<=out.length+j)
  (fun j hj s hs=>?_) (fun s hs=>by simp[pK]) n hn out (Nat.le_refl _)
 ·rw[show ((0:Nat):Int)=0 from rfl]at this;rw[this];have gen:∀ (ys:List aB) (s:List ak),ys.foldl (fun s q=>s++[⟨l[i].x0,q.from_,(l[k - 1]'(by omega)).x1,q.to⟩]) s=s++yY l[i].x0 (l[k - 1]'(by omega)).x1 ys:=by
   intro ys
   induction ys with
   |nil=>intro s;simp[yY]
   |cons y ys ih=>intro s;simp only[foldl_cons,ih];simp[yY]
  rw[gen]
 ·have hj':decide (((j:Nat):Int) < (x3.column.length:Int))=true:=by simpa using hj
  have wp:i64.wrap ((k:Int) - 1)=((k - 1:Nat):Int):=nV hk1 (by omega);have ap:bO s.length s.length (sub ([(ak.mk l[i].x0 (x3.column[j]).from_ (l[k - 1]'(by omega)).x1 (x3.column[j]).to)]:List ak) 0 1).length 1 32=true:=eH (n:=1) (by omega) (by simp only[maxLen];omega);simp only[pK,hj',cond_true,aN hj,aN hi,wp,aN (show k - 1 < l.length by omega),bind_some,ap,fO,aC];refine⟨?_,by simp;omega⟩;rw[au (by omega)];rfl
theorem I7 {n:Nat} {l:List cZ} {b:Nat} (hb:b<=100000) (hl:l.length<=100000) (hc:∀ s∈l,s.column.length<=b) (hn:b < n) (hn2:l.length < n):wW n l=some (iQ l):=by
 unfold wW;simp only[length_nil,aC,cond_true];have main:∀ (m i:Nat) (out:List ak) (k:Nat),i+m=l.length->m < k->out.length<=i*b->iter (pM n l) k ((i:Int),out)=some (out++iQ (l.drop i)):=by
  intro m
  induction m using Nat.strongRecOn with
  |ind m ih=>
   intro i out k him hk ho;obtain⟨k,rfl⟩:∃ j,k=j+1:=⟨k - 1,by omega⟩;by_cases hm:m=0
   ·subst hm;have:i=l.length:=(by omega);subst this;refine aJ ?_;simp[pM,iQ]
   ·have hi:i < l.length:=(by omega);have di:decide (((i:Nat):Int) < (l.length:Int))=true:=(by simpa using hi);obtain⟨q,hq1,hq2,hq3,hq4⟩:∃ q,i < q∧q<=l.length∧(∀ j,i < j->j < q->∀ h:j < l.length,l[j].column=l[i].column)∧(∀ h:q < l.length,l[q].column≠l[i].column):=by
     rcases Dm (fun j=>if h:j < l.length then decide (l[j].column≠l[i].column)else false) (i+1) l.length with ⟨q,h1,h2,h3,h4⟩ |h
     ·simp only[h2,dite_true,decide_eq_true_eq]at h3;refine⟨q,by omega,by omega,fun j hj1 hj2 hj=>?_,fun _=>h3⟩;have:=h4 j (by omega) hj2;simp only[hj,dite_true,decide_eq_false_iff_not,ne_eq,Decidable.not_not]at this;exact this
     ·refine⟨l.length,hi,Nat.le_refl _,fun j hj1 hj2 hj=>?_,fun h=>by omega⟩;have:=h j (by omega) hj;simp only[hj,dite_true,decide_eq_false_iff_not,ne_eq,Decidable.not_not]at this;exact this
    have cl:∀ j (hj:j < l.length),l[j].column.length<=b:=fun j hj=>hc _ (getElem_mem hj);have r2:iter (l6 n l (i:Int)) n (i64.wrap ((i:Int)+1))=some (q:Int):=by
     rw[au (by omega)];have:=lu (step:=l6 n l (i:Int)) (fun j=>((i+1+j:Nat):Int)) (q - (i+1)) (q:Int) (fun j hj=>?_) ?_ n (by omega)
     ·simpa using this
     ·have hjl:i+1+j < l.length:=(by omega);have dj:decide (((i+1+j:Nat):Int) < (l.length:Int))=true:=(by simp;omega);have hcc:=cl (i+1+j) hjl;simp only[l6,dj,cond_true,aN hjl,aN hi,bind_some];rw[xk (by omega) (by omega),hq3 (i+1+j) (by omega) (by omega) hjl];simp only[decide_true,bind_some,cond_true];rw[au (by omega)];rfl
     ·rw[show i+1+(q - (i+1))=q by omega];by_cases hql:q < l.length
      ·have dj:decide (((q:Nat):Int) < (l.length:Int))=true:=(by simpa using hql);have hcc:=cl q hql;simp only[l6,dj,cond_true,aN hql,aN hi,bind_some];rw[xk (by omega) (by omega)];simp[hq4 hql]
      ·have dj:decide (((q:Nat):Int) < (l.length:Int))=false:=(by simp;omega);simp only[l6,dj,cond_false,bind_some]
    have ob:i*b<=100000*100000:=Nat.mul_le_mul (by omega) hb;have hci:=cl i hi;have r3:=Jt (n:=n) hi (show 0 < q by omega) hq2 (by omega) l[i] out (by omega) (by omega) (by omega);have step:pM n l ((i:Int),out)=some (.inl ((q:Int),out++yY l[i].x0 (l[q - 1]'(by omega)).x1 l[i].column)):=(by simp only[pM,di,cond_true,r2,aN hi,bind_some,aC,r3]);rw[aV step,ih (l.length - q) (by omega) q _ k (by omega) (by omega) (by
     rw[length_append,yY,length_map];have:(i+1)*b<=q*b:=Nat.mul_le_mul_right _ (by omega);rw[Nat.add_mul]at this;omega)]
    rw[List.append_assoc];congr 2
    conv=>rhs;rw[List.drop_eq_getElem_cons hi]
    simp only[iQ];rw[PX l[i].x0 l[i].column (l.drop (i+1)) l[i].x1 (q - (i+1)) (by rw[length_drop];omega) (fun j hj=>by
     rw[getElem_drop];exact hq3 _ (by omega) (by omega) (by omega)) (fun h=>by
     rw[length_drop]at h;rw[getElem_drop];have:=hq4 (by omega);have hqq:i+1+(q - (i+1))=q:=(by omega);simp only[hqq];exact this)]
    rw[List.drop_drop,show i+1+(q - (i+1))=q by omega];congr 2;by_cases h0:0 < q - (i+1)
    ·simp only[h0,dite_true,getElem_drop];congr 2;omega
    ·simp only[h0,dite_false];have:q - 1=i:=(by omega);congr 2
 have:=main l.length 0 [] n (by omega) (by omega) (by simp);simp only[Int.natCast_zero,nil_append,List.drop_zero]at this;rw[this];simp
def ofL (l:List ak):List ak×Int:=
 if l.all OkR then (if l.length>400 then ([],6)else if (iQ (bn l)).length>200 then ([],6)else (iQ (bn l),0))else ([],1)
def jY (l:List ak):Bool:=decide ((ofL l).2=0)&&decide ((ofL l).1=l)
theorem I8 {l:List ak} {s:cZ} (h:s∈bn l):s.column.length<=l.length:=by
 obtain⟨i,hi,rfl⟩:=List.getElem_of_mem h;obtain⟨p1,p2⟩:=yX (fun a b=>(⟨a,b,ru l a⟩:cZ)) (gm l);have:(bn l)[i]=⟨(gm l)[i]'(by unfold bn at hi;omega),(gm l)[i+1]'(by unfold bn at hi;omega),ru l ((gm l)[i]'(by unfold bn at hi;omega))⟩:=p2 i (by unfold bn at hi;omega) hi;rw[this];exact ML l _
theorem Bo (l:List ak):(bn l).length<=2*l.length:=by
 obtain⟨p1,_⟩:=yX (fun a b=>(⟨a,b,ru l a⟩:cZ)) (gm l);have:=Dn l;unfold bn;omega
theorem aaT {n:Nat} {l:List ak} (hl:l.length < 1099511627776) (hl2:l.length < n) (hn:1000<=n):XO n l=some (ofL l):=by
 unfold XO;have h1:=iJ (l:=l) (step:=FL l) (fun i=>(i:Int)) (fun r=>!OkR r) () (fun _=>(([]:List ak),(1:Int))) (fun i hi=>?_) ?_ n (by omega)
 ·rw[show ((0:Nat):Int)=0 from rfl]at h1;rw[h1];have h2:=yE (fun r=>!OkR r) l;cases hf:jw (fun r=>!OkR r) l with
  |some i=>
   rw[hf]at h2;have:l.all OkR=false:=by
    rw[<- Bool.not_eq_true,all_eq_true];intro hall;have h3:=h2.symm;simp only[Option.isSome_some,any_eq_true]at h3;obtain⟨x,hx,hx2⟩:=h3;rw[hall x hx]at hx2;cases hx2
   simp[ofL,this]
  |none=>
   rw[hf]at h2;have:l.all OkR=true:=by
    rw[all_eq_true];intro x hx;cases h:OkR x with
    |true=>rfl
    |false=>
     have:l.any (fun r=>!OkR r)=true:=any_eq_true.2 ⟨x,hx,by rw[h];rfl⟩;rw[this]at h2;cases h2
   have hv:∀ r∈l,OkR r=true:=all_eq_true.1 this;by_cases h400:l.length>400
   ·have d4:decide ((l.length:Int)>400)=true:=(by simp;omega);simp only[iH,d4,cond_true,ofL,this,if_true,if_pos h400]
   have d4:decide ((l.length:Int)>400)=false:=(by simp;omega);have ls:=Bo l;simp only[iH,d4,cond_false];have fl:[l].flatten=l:=(by simp);rw[show (sub ([l]:List (List ak)) 0 1)=[l]from rfl,FV (ls:=[l]) (by rw[fl];exact hv) (by rw[fl];omega) (by simp) (by rw[fl];omega) (by simp;omega),fl];simp only[List.length_singleton,aC,cond_true,bind_some,bS];rw[I7 (b:=400) (by omega) (by omega) (fun s hs=>Nat.le_trans (I8 hs) (by omega)) (by omega) (by omega)];simp only[bind_some,bS,aC,cond_true,D5,ofL,this,if_true,if_neg h400];by_cases h200:(iQ (bn l)).length>200
   ·have:decide (((iQ (bn l)).length:Int)>200)=true:=(by simp;omega);simp only[this,cond_true,bind_some,h200,if_true]
   ·have:decide (((iQ (bn l)).length:Int)>200)=false:=(by simp;omega);simp only[this,cond_false,bind_some,h200,if_false]
 ·have hi':decide (((i:Nat):Int) < (l.length:Int))=true:=by simpa using hi
  simp only[FL,hi',cond_true,aN hi,bind_some,sW];cases OkR l[i]with
  |false=>rfl
  |true=>simp only[Bool.not_true,cond_false];rw[au (by omega)]
 ·simp[FL]
theorem Bp {n:Nat} {l:List ak} (hl:l.length < 1099511627776) (hl2:l.length < n) (hn:1000<=n):wX n l=some (jY l):=by
 unfold wX jY;rw[aaT hl hl2 hn];simp only[bind_some];by_cases h:(ofL l).2=0
 ·have e:((ofL l).2==0)=true:=by simp[h]
  have lo:(ofL l).1.length<=200:=by
   unfold ofL;split
   ·split
    ·simp
    ·split
     ·simp
     ·simp;omega
   ·simp
  by_cases hlen:(ofL l).1.length < n
  ·simp only[e,cond_true,h,decide_true,Bool.true_and];rw[Hu (by omega) hlen];rfl
  ·have:(ofL l).1.length≠l.length:=(by omega);have hne:(ofL l).1≠l:=fun e=>this (by rw[e]);simp only[e,cond_true,h,decide_true,Bool.true_and];unfold kX;have hb:(((ofL l).1.length:Int) != (l.length:Int))=true:=(by simp;omega);rw[hb];simp[hne]
 ·have e:((ofL l).2==0)=false:=by simp[h]
  simp[e,h]
def Ry (l:List ak) (x y:Int):Bool:=l.any fun r=>(decide (r.x0<=x)&&decide (x < r.x1))&&(decide (r.y0<=y)&&decide (y < r.y1))
theorem Y4 {a:List ak} (h:jY a=true):ofL a=(a,0):=by
 unfold jY at h;rw[and_eq_true,decide_eq_true_eq,decide_eq_true_eq]at h;obtain⟨h1,h2⟩:=h;exact Prod.ext h2 h1
theorem FW {a:List ak} (h:jY a=true):(∀ r∈a,OkR r=true)∧a.length<=200∧iQ (bn a)=a:=by
 have h:=Y4 h;unfold ofL at h;split at h
 ·rename_i hall;split at h
  ·simp at h
  ·split at h
   ·simp at h
   ·rename_i h200;injection h with h _;refine⟨all_eq_true.1 hall,?_,h⟩;rw[<- h];omega
 ·simp at h
def ext (out:List aB) (p:aB):List aB:=
 match out.getLast? with
 |some q=>bif q.to==p.from_ then out.dropLast++[⟨q.from_,p.to⟩]else out++[p]
 |none=>[p]
theorem Bq {n:Nat} {l:List ak} {φ:(ak×Unit)->Option Bool} (p:ak->Bool) (h:∀ x∈l,φ (x,())=some (p x)) (hl:l.length < 1099511627776) (hn:l.length < n):mZ n l φ=some (wQ p l):=jy p h hl hn
theorem l8 {n:Nat} {l:List ak} {φ:(ak×Unit)->Option Bool} (p:ak->Bool) (h:∀ x∈l,φ (x,())=some (p x)) (hl:l.length < 1099511627776) (hn:l.length < n):dZ n l φ=some (l.any p):=by
 unfold dZ;rw[Bq p h hl hn,bind_some,Q7]
theorem HY {α:Type} (p:α->Bool) (l:List α):(match jw p l with |some _=>true |none=>false)=l.any p:=by
 have:=yE p l;rw[<- this];cases jw p l<;>rfl
def XT (p q:ak):Bool:=decide (max p.x0 q.x0 < min p.x1 q.x1)&&decide (max p.y0 q.y0 < min p.y1 q.y1)
def I9 (a b:List ak):Bool:=a.any fun p=>b.any fun q=>XT p q
theorem Wm {n:Nat} {a b:List ak} (ha:a.length < 1099511627776) (hb:b.length < 1099511627776) (hna:a.length < n) (hnb:b.length < n):J7 n a b=some (I9 a b):=by
 unfold J7 I9;rw[l8 (fun p=>b.any fun q=>XT p q) (fun p _=>?_) ha hna]
 ·rfl
 ·show yU n p b=_;unfold yU;rw[l8 (fun q=>XT p q) (fun q _=>?_) hb hnb]
  ·rfl
  ·show oL q p=_;unfold oL XT;have e1:max q.x0 p.x0=max p.x0 q.x0:=(by omega);have e2:min q.x1 p.x1=min p.x1 q.x1:=(by omega);have e3:max q.y0 p.y0=max p.y0 q.y0:=(by omega);have e4:min q.y1 p.y1=min p.y1 q.y1:=by omega
   first
    |(cases decide (max p.x0 q.x0 < min p.x1 q.x1)<;>rfl)
    |(rw [e1,e2,e3,e4];cases decide (max p.x0 q.x0 < min p.x1 q.x1)<;>rfl)
def MN (a b:ak):Int:=bif (!OkR a || !OkR b)then -1 else max (max 0 (i64.wrap ((max a.x0 b.x0) - (min a.x1 b.x1)))) (i64.wrap ((max a.y0 b.y0) - (min a.y1 b.y1)))
theorem aaU (a b:ak):XP a b=some (MN a b):=by
 unfold XP MN;rw[sW,sW];simp only[bind_some];cases OkR a<;>cases OkR b<;>rfl
def yZ (a b:List ak):Int×Bool:=
 bif (decide (a=[]) || (decide (b=[]) || (!jY a || !jY b)))then (0,false)else (a.foldl (fun m x=>b.foldl (fun m y=>min m (MN x y)) m) 1048576,true)
theorem Og {n:Nat} {b:List ak} (hb:b.length < 1099511627776) (hn:b.length < n) (x:ak) (m:Int):iter (wY b x) n (m,(0:Int))=some (b.foldl (fun m y=>min m (MN x y)) m):=by
 have:=nW (l:=b) (step:=wY b x) (fun i (s:Int)=>(s,((i:Nat):Int))) (fun y m=>min m (MN x y)) (fun s=>s) (fun i hi s=>?_) (fun s=>by simp[wY]) n hn m
 ·exact this
 ·have hi':decide (((i:Nat):Int) < (b.length:Int))=true:=by simpa using hi
  simp only[wY,hi',cond_true,aN hi,bind_some,aaU];rw[au (by omega)]
theorem PY {n:Nat} {a b:List ak} (ha:a.length<=900) (hb:b.length<=900) (hn:1000<=n):Hr n a b=some (yZ a b):=by
 unfold Hr yZ;have z:∀ l:List ak,(((l.length:Int))==0)=decide (l=[]):=fun l=>by cases l<;>simp<;>omega
 rw[z a,z b,Bp (by omega) (by omega) hn,Bp (by omega) (by omega) hn];have loop:(iter (wZ n a b) n ((1048576:Int),(0:Int)))=some (a.foldl (fun m x=>b.foldl (fun m y=>min m (MN x y)) m) 1048576):=by
  have:=nW (l:=a) (step:=wZ n a b) (fun i (s:Int)=>(s,((i:Nat):Int))) (fun x m=>b.foldl (fun m y=>min m (MN x y)) m) (fun s=>s) (fun i hi s=>?_) (fun s=>by simp[wZ]) n (by omega) 1048576
  ·exact this
  ·have hi':decide (((i:Nat):Int) < (a.length:Int))=true:=(by simpa using hi);simp only[wZ,hi',cond_true,aN hi,bind_some];rw[Og (by omega) (by omega),bind_some,au (by omega)]
 simp only[bind_some,loop];cases decide (a=[])<;>cases decide (b=[])<;>cases jY a<;>cases jY b<;>rfl
def XU:bM:=bM.mk 0 0 [] []
def aK (land:List bM) (id:Int):bM×Bool:=match land.find? fun t=>t.id==id with
 |some t=>(t,true)
 |none=>(XU,false)
abbrev zC (t:bM):Prop:=t.area.length<=900∧t.from_.length<=900
theorem Ug {t:bM} (h:zC t):FD t=some t:=by
 unfold FD;rw[xh (by omega),bind_some,Js (by omega),bind_some];simp only[bS,aC,cond_true]
theorem MO {α:Type} (p:α->Bool) (l:List α):(∃ (i:Nat) (h:i < l.length),jw p l=some i∧l.find? p=some l[i])∨(jw p l=none∧l.find? p=none):=by
 rcases iZ p l with ⟨i,hi,h1,h2,h3⟩ |⟨h1,h2⟩
 ·refine .inl ⟨i,hi,h1,?_⟩;rw[List.find?_eq_some_iff_getElem];exact⟨h2,i,hi,rfl,fun j hj=>by simpa using h3 j hj⟩
 ·refine .inr ⟨h1,?_⟩;rw[List.find?_eq_none];intro x hx;rw[h2 x hx];simp
theorem sZ {n:Nat} {land:List bM} {id:Int} (h:∀ t∈land,zC t) (hl:land.length < 1099511627776) (hn:land.length < n):mQ n land id=some (aK land id):=by
 unfold mQ;have:=iJ (l:=land) (step:=yK land id) (fun i=>(i:Int)) (fun t=>t.id==id) () (fun i=>(land.getD i XU,true)) (fun i hi=>?_) ?_ n hn
 ·rw[show ((0:Nat):Int)=0 from rfl]at this;rw[this];unfold aK;rcases MO (fun t:bM=>t.id==id) land with ⟨i,hi,h1,h2⟩ |⟨h1,h2⟩
  ·rw[h1,h2];simp[hi]
  ·rw[h1,h2];rfl
 ·have hi':decide (((i:Nat):Int) < (land.length:Int))=true:=by simpa using hi
  simp only[yK,hi',cond_true,aN hi,bind_some,Ug (h _ (getElem_mem hi))];cases land[i].id==id with
  |true=>simp[hi]
  |false=>simp only[cond_false];rw[au (by omega)]
 ·simp[yK]
theorem MP {land:List bM} (h:∀ t∈land,zC t) (id:Int):zC (aK land id).1:=by
 unfold aK;split
 ·rename_i t ht;exact h t (List.mem_of_find?_eq_some ht)
 ·simp[zC,XU]
def y5 (t:bM) (id d:Int) (u:bM):Bool:=(yZ t.area u.area).2&&(decide ((yZ t.area u.area).1<=d)&&(u.id != id))
def rz (land:List bM) (t:bM) (id d:Int):List Int:=(land.filter fun u=>y5 t id d u).map (·.id)
def kZ (land:List bM) (id d:Int):List Int:=
 bif (aK land id).2 then VP (rz land (aK land id).1 id d)else []
theorem MQ {n:Nat} {land:List bM} (hl:land.length < 10995116277) (hn:land.length < n):iter (sP land) n ((0:Int),([]:List (List ak)))=some (land.map (·.area)):=by
 have:=lu (step:=sP land) (fun i=>(((i:Nat):Int),(land.take i).map (·.area))) land.length (land.map (·.area)) (fun i hi=>?_) ?_ n hn
 ·simpa using this
 ·have hi':decide (((i:Nat):Int) < (land.length:Int))=true:=by simpa using hi
  have ap:bO ((land.take i).map (·.area)).length ((land.take i).map (·.area)).length (sub ([land[i].area]:List (List ak)) 0 1).length 1 24=true:=by
   refine eH (n:=1) ?_ ?_
   ·rw[length_map,length_take];omega
   ·rw[length_map,length_take];simp only[maxLen];omega
  simp only[sP,hi',cond_true,aN hi,bind_some,ap,fO,aC];rw[au (by omega),take_succ_eq_append_getElem hi,List.map_append];rfl
 ·simp[sP]
theorem Oh {land:List bM} (h:∀ t∈land,t.area.length<=900) (id:Int):(aK land id).1.area.length<=900:=by
 unfold aK;split
 ·rename_i t ht;exact h t (List.mem_of_find?_eq_some ht)
 ·simp[XU]
theorem Wn {n:Nat} {land:List bM} {id d:Int} (h:∀ t∈land,t.area.length<=900) (hF:mQ n land id=some (aK land id)) (hl:land.length<=100) (hn:1000<=n):FM n land id d=some (kZ land id d):=by
 unfold FM kZ;rw[hF];simp only[bind_some];cases hf:(aK land id).2 with
 |false=>rfl
 |true=>
  have ht:=Oh h id;simp only[Bool.not_true,cond_false,length_nil,aC,cond_true,MQ (land:=land) (n:=n) (by omega) (by omega),bind_some];have key:iter (sQ n land id d (aK land id) (land.map (·.area))) n ((0:Int),([]:List Int))=some (rz land (aK land id).1 id d):=by
   have:=lK (l:=land) (step:=sQ n land id d (aK land id) (land.map (·.area))) (fun i (s:List Int)=>(((i:Nat):Int),s)) (fun u s=>bif y5 (aK land id).1 id d u then s++[u.id]else s) (fun s=>s) (fun i s=>s.length<=i)
    (fun i hi s hs=>?_) (fun s hs=>by simp[sQ]) n (by omega) [] (Nat.le_refl _)
   ·rw[show ((0:Nat):Int)=0 from rfl]at this;rw[this];have gen:∀ (ys:List bM) (s:List Int),ys.foldl (fun s u=>bif y5 (aK land id).1 id d u then s++[u.id]else s) s=s++rz ys (aK land id).1 id d:=by
     intro ys
     induction ys with
     |nil=>intro s;simp[rz]
     |cons y ys ih=>
      intro s;simp only[foldl_cons,ih,rz];cases hy:y5 (aK land id).1 id d y<;>simp[hy]
    rw[gen];simp
   ·have hlm:(land.map (·.area)).length=land.length:=(by simp);have hi':decide (((i:Nat):Int) < (((land.map (·.area)).length:Nat):Int))=true:=(by rw[hlm];simpa using hi);have ib:inb ((i:Nat):Int) (land.map (·.area)).length=true:=bR (by omega);have g:at? (land.map (·.area)) (((0:Nat):Int)+((i:Nat):Int))=some land[i].area:=(by rw[yD];simp[hi]);have hu:=h _ (getElem_mem hi);have ap:bO s.length s.length (sub ([land[i].id]:List Int) 0 1).length 1 8=true:=eH (n:=1) (by omega) (by simp only[maxLen];omega);have gp:Hr n (aK land id).1.area land[i].area=some (yZ (aK land id).1.area land[i].area):=PY ht hu hn;simp only[sQ,hi',cond_true,ib,g,bind_some,gp,aN hi];have e:((bif (yZ (aK land id).1.area land[i].area).2 then (bif (decide ((yZ (aK land id).1.area land[i].area).1<=d))then some (land[i].id != id)else some false)else some false):Option Bool)=some (y5 (aK land id).1 id d land[i]):=by
     unfold y5;cases (yZ (aK land id).1.area land[i].area).2<;>cases decide ((yZ (aK land id).1.area land[i].area).1<=d)<;>rfl
    rw[e];simp only[bind_some];cases y5 (aK land id).1 id d land[i]with
    |true=>
     simp only[cond_true,ap,fO,aC,bind_some];refine⟨?_,by simp;omega⟩;rw[au (by omega)];rfl
    |false=>
     simp only[cond_false,aC,cond_true,bind_some];exact⟨by rw[au (by omega)],by omega⟩
  have hlen:(rz land (aK land id).1 id d).length<=100:=by
   unfold rz;rw[length_map];exact Nat.le_trans (length_filter_le _ _) hl
  rw[key];simp only[bind_some,aC,cond_true];rw[sV (by omega) (by omega)];simp only[bind_some,cO,aC,cond_true];rw[ng (by rw[cO];omega) (by rw[cO];omega)];simp only[bind_some,bS,aC,cond_true];rfl
theorem Wo {n:Nat} {land:List bM} {id d:Int} (h:∀ t∈land,zC t) (hl:land.length<=100) (hn:1000<=n):FM n land id d=some (kZ land id d):=Wn (fun t ht=>(h t ht).1) (sZ h (by omega) (by omega)) hl hn
def Cm:ByteArray:=⟨#[110,111,116,105,99,101]⟩
def abQ (t:bB) (name:ByteArray):Int:=match t.rows.find? fun e=>ByteArray.toList e.name==ByteArray.toList name with
 |some e=>e.n
 |none=>t.else_
def Oi (tables:List bB) (name:ByteArray):Int:=match tables.find? fun t=>ByteArray.toList t.name==ByteArray.toList Cm with
 |some t=>abQ t name
 |none=>0
theorem y7 {α:Type} (p:α->Bool) (l:List α):(∃ (i:Nat) (h:i < l.length),wQ p l=(i:Int)∧l.find? p=some l[i])∨(wQ p l= -1∧l.find? p=none):=by
 rcases MO p l with ⟨i,hi,h1,h2⟩ |⟨h1,h2⟩
 ·exact .inl ⟨i,hi,by simp[wQ,h1],h2⟩
 ·exact .inr ⟨by simp[wQ,h1],h2⟩
theorem PZ {n:Nat} {p:dn} {name:ByteArray} (h:p.tables.length < n) (hl:p.tables.length < 1099511627776) (hr:∀ t∈p.tables,t.rows.length < n∧t.rows.length < 1099511627776):Hl n p name=some (Oi p.tables name):=by
 unfold Hl Oi;rw[nK (fun t=>ByteArray.toList t.name==ByteArray.toList Cm) (fun x _=>rfl) hl h];simp only[bind_some];rcases y7 (fun t:bB=>ByteArray.toList t.name==ByteArray.toList Cm) p.tables with ⟨i,hi,h1,h2⟩ |⟨h1,h2⟩
 ·rw[h1,h2];have d:decide (((i:Nat):Int) < 0)=false:=by simp
  obtain⟨r1,r2⟩:=hr _ (getElem_mem hi);simp only[d,cond_false,aN hi,bind_some];rw[nL (fun e=>ByteArray.toList e.name==ByteArray.toList name) (fun x _=>rfl) r2 r1];simp only[bind_some,abQ];rcases y7 (fun e:bL=>ByteArray.toList e.name==ByteArray.toList name) p.tables[i].rows with ⟨j,hj,g1,g2⟩ |⟨g1,g2⟩
  ·rw[g1,g2];have d:decide (((j:Nat):Int) < 0)=false:=(by simp);simp only[d,cond_false,aN hj,bind_some]
  ·rw[g1,g2];rfl
 ·rw[h1,h2];rfl
def useNames:List ByteArray:=[⟨#[104,111,109,101]⟩,⟨#[115,104,111,112]⟩,⟨#[119,111,114,107]⟩,⟨#[112,97,114,107]⟩,⟨#[112,108,97,110,116]⟩,⟨#[104,97,108,108]⟩]
def nameOf (use:Int):Option ByteArray:=at? useNames use
def Uh (tables:List bB) (m:Int) (v:eY):Int:=match nameOf v.use with
 |some nm=>max m (Oi tables nm)
 |none=>m
def MR (tables:List bB) (m:Int) (ph:kM):Int:=ph.volumes.foldl (Uh tables) m
def xq (tables:List bB) (d:aQ):Int:=d.phases.foldl (MR tables) 0
abbrev Rz (ts:List bB):Prop:=ts.length<=4∧∀ t∈ts,t.rows.length<=10
abbrev vE (d:aQ):Prop:=d.phases.length<=5∧∀ p∈d.phases,p.volumes.length<=4
theorem D9 {n:Nat} {p:dn} (hp:Rz p.tables) {ph:kM} (hv:ph.volumes.length<=4) (hn:1000<=n) (m:Int):iter (jS n p ph) n (m,(0:Int))=some (MR p.tables m ph):=by
 have:=nW (l:=ph.volumes) (step:=jS n p ph) (fun i (s:Int)=>(s,((i:Nat):Int))) (fun v m=>Uh p.tables m v) (fun s=>s) (fun i hi s=>?_) (fun s=>by simp[jS]) n (by omega) m
 ·exact this
 ·have hi':decide (((i:Nat):Int) < (ph.volumes.length:Int))=true:=by simpa using hi
  have rw1:∀ nm,Hl n p nm=some (Oi p.tables nm):=fun nm=>PZ (by omega) (by omega) (fun t ht=>by have:=hp.2 t ht;omega);simp only[jS,hi',cond_true,aN hi,bind_some];have e:((bif (decide (ph.volumes[i].use>=(0:Int)))then some (decide (ph.volumes[i].use < (6:Int)))else some false):Option Bool)=some (inb ph.volumes[i].use 6):=by simp only[Bl,inb];rfl
  rw[e];simp only[bind_some,Uh,nameOf];cases hb:inb ph.volumes[i].use 6 with
  |true=>
   have hb2:0<=ph.volumes[i].use∧ph.volumes[i].use < 6:=(by simpa[inb]using hb);obtain⟨k,hk⟩:∃ k:Nat,ph.volumes[i].use=(k:Int):=⟨ph.volumes[i].use.toNat,by omega⟩;have hk6:k < useNames.length:=(by have:useNames.length=6:=rfl;omega);have g:at? useNames ph.volumes[i].use=some useNames[k]:=(by rw[hk];exact aN hk6);have g':at? ([⟨#[104,111,109,101]⟩,⟨#[115,104,111,112]⟩,⟨#[119,111,114,107]⟩,⟨#[112,97,114,107]⟩,⟨#[112,108,97,110,116]⟩,⟨#[104,97,108,108]⟩]:List ByteArray) ph.volumes[i].use=some useNames[k]:=g;simp only[cond_true,g',bind_some,rw1,g];rw[au (by omega)]
  |false=>
   have g:at? useNames ph.volumes[i].use=none:=by
    have hb2:¬ (0<=ph.volumes[i].use∧ph.volumes[i].use < 6):=(by intro hc;rw[show inb ph.volumes[i].use 6=true by simpa[inb]using hc]at hb;cases hb);by_cases h0:0<=ph.volumes[i].use
    ·obtain⟨k,hk⟩:∃ k:Nat,ph.volumes[i].use=(k:Int):=⟨ph.volumes[i].use.toNat,by omega⟩;rw[hk,AA];exact List.getElem?_eq_none (by have:useNames.length=6:=rfl;omega)
    ·simp[at?,h0]
   simp only[cond_false,g,bind_some];rw[au (by omega)]
theorem ni {n:Nat} {p:dn} (hp:Rz p.tables) {d:aQ} (hd:vE d) (hn:1000<=n):dw n p d=some (xq p.tables d):=by
 unfold dw;have:=nW (l:=d.phases) (step:=mO n p d) (fun i (s:Int)=>(s,((i:Nat):Int))) (fun ph m=>MR p.tables m ph) (fun s=>s) (fun i hi s=>?_) (fun s=>by simp[mO]) n (by omega) 0
 ·rw[show ((0:Nat):Int)=0 from rfl]at this;rw[this];rfl
 ·have hi':decide (((i:Nat):Int) < (d.phases.length:Int))=true:=by simpa using hi
  simp only[mO,hi',cond_true,aN hi,bind_some];rw[D9 hp (hd.2 _ (getElem_mem hi)) hn,bind_some,au (by omega)]
theorem MS {n:Nat} {p:dn} (hp:Rz p.tables) (hn:1000<=n):yI n p=some (max 0 (Oi p.tables ⟨#[100,97,121,115]⟩)):=by
 unfold yI;rw[PZ (by omega) (by omega) (fun t ht=>by have:=hp.2 t ht;omega)];rfl
abbrev vF (t:GTown):Prop:=t.land.length<=100∧(∀ l∈t.land,zC l)∧Rz t.plan_tables
def qE (a0:GTown):dn:=dn.mk a0.plan_defs a0.plan_tables a0.plan_zones a0.plan_rules a0.plan_caps a0.plan_views a0.plan_sun a0.plan_hours
def pX (t:GTown) (d:aQ):List Int:=kZ t.land d.lot (xq t.plan_tables d)
def gY (t:GTown) (ids:List Int):List Int:=ids.map fun id=>(aK t.land id).1.owner
def oM (t:GTown) (d:aQ):List Int:=VP (gY t (pX t d))
theorem Ja (l:List Int):(VP l).length<=l.length:=by
 unfold VP;have:=qD (mG (fun a b=>decide (a < b)) l)
 rwa [cO]at this
theorem y8 (land:List bM) (id d:Int):(kZ land id d).length<=land.length:=by
 unfold kZ;cases (aK land id).2 with
 |true=>
  refine Nat.le_trans (Ja _) ?_;unfold rz;rw[length_map];exact length_filter_le _ _
 |false=>simp
theorem Ea {n:Nat} {t:GTown} (ht:vF t) {d:aQ} (hd:vE d) (hn:1000<=n):uR n t d=some (pX t d):=by
 unfold uR;have h1:dw n (dn.mk t.plan_defs t.plan_tables t.plan_zones t.plan_rules t.plan_caps t.plan_views t.plan_sun t.plan_hours) d=some (xq t.plan_tables d):=ni (p:=qE t) ht.2.2 hd hn;rw[h1,bind_some,Wo ht.2.1 ht.1 hn];simp only[bind_some,bS,aC,cond_true];rfl
theorem rC {n:Nat} {t:GTown} (ht:vF t) {d:aQ} (hd:vE d) (hn:1000<=n):ko n t d=some (oM t d):=by
 unfold ko;rw[Ea ht hd hn];have hlen:(pX t d).length<=100:=Nat.le_trans (y8 _ _ _) ht.1;have key:iter (mX n t (pX t d)) n ((0:Int),([]:List Int))=some (gY t (pX t d)):=by
  have:=lu (step:=mX n t (pX t d)) (fun i=>(((i:Nat):Int),gY t ((pX t d).take i))) (pX t d).length (gY t (pX t d)) (fun i hi=>?_) ?_ n (by omega)
  ·simpa[gY]using this
  ·have hi':decide (((i:Nat):Int) < (((pX t d).length:Nat):Int))=true:=(by simpa using hi);have ap:bO (gY t ((pX t d).take i)).length (gY t ((pX t d).take i)).length (sub ([(aK t.land (pX t d)[i]).1.owner]:List Int) 0 1).length 1 8=true:=by
    refine eH (n:=1) ?_ ?_
    ·unfold gY;rw[length_map,length_take];omega
    ·unfold gY;rw[length_map,length_take];simp only[maxLen];omega
   simp only[mX,hi',cond_true,bR hi,cK hi,bind_some];rw[sZ ht.2.1 (by have:=ht.1;omega) (by have:=ht.1;omega)];simp only[bind_some,ap,cond_true,fO,aC];rw[au (by omega),take_succ_eq_append_getElem hi];simp only[gY,List.map_append];rfl
  ·simp[mX,gY]
 simp only[bind_some,length_nil,aC,cond_true,key];have hol:(gY t (pX t d)).length<=100:=by unfold gY;rw[length_map];exact hlen
 rw[sV (by omega) (by omega)];simp only[bind_some,cO,aC,cond_true];rw[ng (by rw[cO];omega) (by rw[cO];omega)];simp only[bind_some,bS,aC,cond_true];rfl
theorem tq {t:GTown} (ht:vF t) (d:aQ):(oM t d).length<=100:=by
 refine Nat.le_trans (Ja _) ?_;unfold gY;rw[length_map];exact Nat.le_trans (y8 _ _ _) ht.1
def Wp (t:GTown) (d x:aQ):List Int:=(oM t x).filter fun o=>!((oM t d).any fun y=>o==y)
theorem Ui {n:Nat} {t:GTown} (ht:vF t) {d x:aQ} (hd:vE d) (hx:vE x) (hn:1000<=n):Ba n t d x=some (Wp t d x):=by
 unfold Ba;have l1:=tq ht d;have l2:=tq ht x;rw[rC ht hd hn,rC ht hx hn];simp only[bind_some,bS,aC,cond_true];rw[Bh (fun o=>(oM t d).any fun y=>o==y) (fun o _=>by
  show uS n o (oM t d)=_;unfold uS;rw[lQ (by omega) (by omega)];rfl) (by omega) (by omega)]
 simp only[bind_some,bS,aC,cond_true];rfl
def Y5 (t:GTown) (d:aQ) (party:Int):Bool:=((oM t d).any fun y=>party==y)&&((aK t.land d.lot).2&&((aK t.land d.lot).1.owner != party))
theorem Y6 {n:Nat} {t:GTown} (ht:vF t) {d:aQ} (hd:vE d) {party:Int} (hn:1000<=n):D6 n t d party=some (Y5 t d party):=by
 unfold D6 Y5;have l1:=tq ht d;rw[sZ ht.2.1 (by have:=ht.1;omega) (by have:=ht.1;omega),rC ht hd hn];simp only[bind_some,bS,aC,cond_true];rw[lQ (by omega) (by omega)];simp only[bind_some,Bl]
theorem RA {n:Nat} (t:GTown) (d:aQ) (hn:1000<=n):∃ b,FN n t d=some b∧(b=true->(vF t∧d.phases.length<=4∧vE d)∧t.land.length<=8∧∀ l∈t.land,l.area.length<=6∧l.from_.length<=10):=by
 have tk:∀ {α:Type} (l:List α) (k i:Nat) (hi:i < (l.take k).length),(l.take k)[i]=l[i]'(by rw[length_take]at hi;omega):=fun l k i hi=>List.getElem_take;unfold FN;have h1:=iJ (l:=t.land.take 9) (step:=yO t) (fun i=>(i:Int)) (fun x=>decide (x.area.length>6) || decide (x.from_.length>10)) () (fun _=>false) (fun i hi=>?_) ?_ n (by rw[length_take];omega)
 ·have h2:=iJ (l:=t.plan_tables.take 5) (step:=yP t) (fun i=>(i:Int)) (fun x=>decide (x.rows.length>10)) () (fun _=>false) (fun i hi=>?_) ?_ n (by rw[length_take];omega)
  ·have h3:=iJ (l:=d.phases.take 5) (step:=yQ d) (fun i=>(i:Int)) (fun x=>decide (x.volumes.length>4)) () (fun _=>false) (fun i hi=>?_) ?_ n (by rw[length_take];omega)
   ·rw[show ((0:Nat):Int)=0 from rfl]at h1 h2 h3;rw[h1,h2,h3];rcases iZ (fun x:bM=>decide (x.area.length>6) || decide (x.from_.length>10)) (t.land.take 9)with ⟨i,_,e,_⟩ |⟨e1,f1⟩
    ·rw[e];exact⟨false,rfl,fun h=>by cases h⟩
    rcases iZ (fun x:bB=>decide (x.rows.length>10)) (t.plan_tables.take 5)with ⟨i,_,e,_⟩ |⟨e2,f2⟩
    ·rw[e1,e];exact⟨false,rfl,fun h=>by cases h⟩
    rcases iZ (fun x:kM=>decide (x.volumes.length>4)) (d.phases.take 5)with ⟨i,_,e,_⟩ |⟨e3,f3⟩
    ·rw[e1,e2,e];exact⟨false,rfl,fun h=>by cases h⟩
    rw[e1,e2,e3];simp only[iH,Bl];refine⟨_,rfl,fun h=>?_⟩;simp only[and_eq_true,decide_eq_true_eq]at h;obtain⟨a1,a2,a3⟩:=h;rw[take_of_length_le (by omega)]at f1 f2 f3;refine⟨⟨⟨by omega,fun l hl=>?_,by omega,fun x hx=>?_⟩,by omega,by omega,fun x hx=>?_⟩,by omega,fun l hl=>?_⟩
    ·have:=f1 l hl;simp at this;exact⟨by omega,by omega⟩
    ·have:=f2 x hx;simpa using this
    ·have:=f3 x hx;simpa using this
    ·have:=f1 l hl;simp at this;exact⟨by omega,by omega⟩
   ·have hi2:i < d.phases.length∧i < 5:=(by rw[length_take]at hi;omega);have c1:decide (((i:Nat):Int) < (d.phases.length:Int))=true:=(by simpa using hi2.1);have c2:decide (((i:Nat):Int) < (5:Int))=true:=(by simp;omega);rw[tk];simp only[yQ,c1,c2,cond_true,bind_some,aN hi2.1];have e:decide ((d.phases[i].volumes.length:Int)>4)=decide (d.phases[i].volumes.length>4):=(by simp;omega);rw[e];cases decide (d.phases[i].volumes.length>4)with
    |true=>rfl
    |false=>simp only[cond_false];rw[au (by omega)]
   ·have:(decide ((((d.phases.take 5).length:Nat):Int) < (d.phases.length:Int))&&decide ((((d.phases.take 5).length:Nat):Int) < (5:Int)))=false:=(by rw[length_take];simp;omega);simp only[yQ,Bl,this,bind_some,cond_false]
  ·have hi2:i < t.plan_tables.length∧i < 5:=(by rw[length_take]at hi;omega);have c1:decide (((i:Nat):Int) < (t.plan_tables.length:Int))=true:=(by simpa using hi2.1);have c2:decide (((i:Nat):Int) < (5:Int))=true:=(by simp;omega);rw[tk];simp only[yP,c1,c2,cond_true,bind_some,aN hi2.1];have e:decide ((t.plan_tables[i].rows.length:Int)>10)=decide (t.plan_tables[i].rows.length>10):=(by simp;omega);rw[e];cases decide (t.plan_tables[i].rows.length>10)with
   |true=>rfl
   |false=>simp only[cond_false];rw[au (by omega)]
  ·have:(decide ((((t.plan_tables.take 5).length:Nat):Int) < (t.plan_tables.length:Int))&&decide ((((t.plan_tables.take 5).length:Nat):Int) < (5:Int)))=false:=(by rw[length_take];simp;omega);simp only[yP,Bl,this,bind_some,cond_false]
 ·have hi2:i < t.land.length∧i < 9:=by rw[length_take]at hi;omega
  have c1:decide (((i:Nat):Int) < (t.land.length:Int))=true:=by simpa using hi2.1
  have c2:decide (((i:Nat):Int) < (9:Int))=true:=by simp;omega
  rw[tk];simp only[yO,c1,c2,cond_true,bind_some,aN hi2.1,acV];have e:(decide ((t.land[i].area.length:Int)>6) || decide ((t.land[i].from_.length:Int)>10))=(decide (t.land[i].area.length>6) || decide (t.land[i].from_.length>10)):=by congr 1<;>(rw [decide_eq_decide];omega)
  rw[e];cases (decide (t.land[i].area.length>6) || decide (t.land[i].from_.length>10))with
  |true=>rfl
  |false=>simp only[cond_false];rw[au (by omega)]
 ·have:(decide ((((t.land.take 9).length:Nat):Int) < (t.land.length:Int))&&decide ((((t.land.take 9).length:Nat):Int) < (9:Int)))=false:=by rw[length_take];simp;omega
  simp only[yO,Bl,this,bind_some,cond_false]
theorem Wq {n:Nat} (t:GTown) (d:aQ) (hn:1000<=n):∃ b,FN n t d=some b∧(b=true->vF t∧d.phases.length<=4∧vE d):=by
 obtain⟨b,h1,h2⟩:=RA (n:=n) t d hn;exact⟨b,h1,fun h=>(h2 h).1⟩
def acW (a b:Int):List ak:=[ak.mk a 0 b 4]
def sampleG:GTown:=GTown.mk [] [bB.mk Cm [bL.mk ⟨#[104,111,109,101]⟩ 2,bL.mk ⟨#[112,108,97,110,116]⟩ 9,bL.mk ⟨#[100,97,121,115]⟩ 14] 1] [] [] [] [] [] 0 [bM.mk 1 7 (acW 0 4) [],bM.mk 2 7 (acW 5 8) [],bM.mk 3 5 (acW 12 14) []] [] [] [] []
def ofG (lot a b:Int):aQ:=aQ.mk lot [kM.mk [eY.mk 0 0 0 0 0 0 a 0 false] [],kM.mk [eY.mk 0 0 0 0 0 0 b 0 false] []]
theorem Y7:DZ=some sampleG:=by kernel_rfl
theorem of_eq (lot a b:Int):MH lot a b=some (ofG lot a b):=by kernel_rfl
theorem aaV:vF sampleG:=by
 refine⟨by decide,?_,by decide,?_⟩
 ·intro l hl;simp only[sampleG,mem_cons,List.not_mem_nil,or_false]at hl;rcases hl with rfl |rfl |rfl<;>exact⟨by decide,by decide⟩
 ·intro t ht;simp only[sampleG,mem_singleton]at ht;subst ht;decide
theorem Y8 (lot a b:Int):vE (ofG lot a b):=by
 refine⟨by simp[ofG],fun p hp=>?_⟩;simp only[ofG,mem_cons,List.not_mem_nil,or_false]at hp;rcases hp with rfl |rfl<;>simp
theorem aaW {n:Nat} (hn:1000<=n):Ch n=some true:=by
 have k:=aaV;have d1:∀ lot a b,dw n (dn.mk sampleG.plan_defs sampleG.plan_tables sampleG.plan_zones sampleG.plan_rules sampleG.plan_caps sampleG.plan_views sampleG.plan_sun sampleG.plan_hours) (ofG lot a b)=some (xq sampleG.plan_tables (ofG lot a b)):=fun lot a b=>ni (p:=qE sampleG) k.2.2 (Y8 lot a b) hn;have d2:yI n (dn.mk sampleG.plan_defs sampleG.plan_tables sampleG.plan_zones sampleG.plan_rules sampleG.plan_caps sampleG.plan_views sampleG.plan_sun sampleG.plan_hours)=some (max 0 (Oi sampleG.plan_tables ⟨#[100,97,121,115]⟩)):=MS (p:=qE sampleG) k.2.2 hn;have o1:∀ lot a b,ko n sampleG (ofG lot a b)=some (oM sampleG (ofG lot a b)):=fun lot a b=>rC k (Y8 lot a b) hn;have l1:∀ lot a b,uR n sampleG (ofG lot a b)=some (pX sampleG (ofG lot a b)):=fun lot a b=>Ea k (Y8 lot a b) hn;have a1:Ba n sampleG (ofG 1 0 0) (ofG 1 0 4)=some (Wp sampleG (ofG 1 0 0) (ofG 1 0 4)):=Ui k (Y8 _ _ _) (Y8 _ _ _) hn;have m1:∀ lot a b party,D6 n sampleG (ofG lot a b) party=some (Y5 sampleG (ofG lot a b) party):=fun lot a b party=>Y6 k (Y8 lot a b) hn;have e1:xq sampleG.plan_tables (ofG 1 0 0)=2:=by kernel_rfl
 have e2:xq sampleG.plan_tables (ofG 1 0 4)=9:=by kernel_rfl
 have e3:xq sampleG.plan_tables (ofG 1 1 1)=1:=by kernel_rfl
 have e4:max 0 (Oi sampleG.plan_tables ⟨#[100,97,121,115]⟩)=14:=by kernel_rfl
 have e5:oM sampleG (ofG 1 0 0)=[7]:=by kernel_rfl
 have e6:oM sampleG (ofG 1 0 4)=[5,7]:=by kernel_rfl
 have e7:pX sampleG (ofG 1 0 4)=[2,3]:=by kernel_rfl
 have e8:Wp sampleG (ofG 1 0 0) (ofG 1 0 4)=[5]:=by kernel_rfl
 have e9:Y5 sampleG (ofG 1 0 4) 5=true:=by kernel_rfl
 have e10:Y5 sampleG (ofG 1 0 4) 7=false:=by kernel_rfl
 have e11:Y5 sampleG (ofG 1 0 0) 5=false:=by kernel_rfl
 have i1:jU n [7] [7]=some true:=by rw[uY (by simp) (by simp;omega)];rfl
 have i2:jU n [5,7] [5,7]=some true:=by rw[uY (by simp) (by simp;omega)];rfl
 have i3:jU n [2,3] [2,3]=some true:=by rw[uY (by simp) (by simp;omega)];rfl
 have i4:jU n [5] [5]=some true:=by rw[uY (by simp) (by simp;omega)];rfl
 have s1:(sub ([7]:List Int) 0 1)=[7]:=rfl;have s2:(sub ([5,7]:List Int) 0 2)=[5,7]:=rfl;have s3:(sub ([2,3]:List Int) 0 2)=[2,3]:=rfl;have s4:(sub ([5]:List Int) 0 1)=[5]:=rfl;have q1:∀ a:Int,eqL [a].length 1=true:=fun _=>rfl;have q2:∀ a b:Int,eqL [a,b].length 2=true:=fun _ _=>rfl;unfold Ch;simp only[Y7,of_eq,bind_some,d1,e1,e2,e3,d2,e4,beq_self_eq_true,cond_true,o1,e5,e6,bS,aC,s1,s2,s3,s4,q1,q2,i1,i2,i3,i4,l1,e7,a1,e8,m1,e9,e10,e11,Bool.not_false]
def gxR (a b:ak):Int:=i64.wrap ((max a.x0 b.x0) - (min a.x1 b.x1))
def gyR (a b:ak):Int:=i64.wrap ((max a.y0 b.y0) - (min a.y1 b.y1))
def touchR (a b:ak):Bool:=(OkR a&&OkR b)&&((gxR a b==0&&decide (gyR a b < 0)) || (gyR a b==0&&decide (gxR a b < 0)))
theorem Ws (a b:ak):J6 a b=some (touchR a b):=by
 unfold J6 Rs touchR;rw[sW,sW];simp only[bind_some];cases OkR a<;>cases OkR b<;>simp only[Bool.not_true,Bool.not_false,cond_true,cond_false,bind_some,Bool.and_self,Bool.false_and,Bool.and_false,Bool.true_and];show (bif gxR a b==0 then (bif decide (gyR a b < 0)then some true else (bif gyR a b==0 then some (decide (gxR a b < 0))else some false))else (bif gyR a b==0 then some (decide (gxR a b < 0))else some false))=_;cases gxR a b==0<;>cases decide (gyR a b < 0)<;>cases gyR a b==0<;>simp
theorem Br {part:List ak} {i:Nat} (hi:i < part.length) (hl:part.length < 1099511627) (x:ak):
 jV x (i:Int) part=some (touchR part[i] x,(i:Int),bif touchR part[i] x then part++[x]else part):=by
 unfold jV;have ap:bO part.length part.length (sub ([x]:List ak) 0 1).length 1 32=true:=eH (n:=1) (by omega) (by simp only[maxLen];omega);rw[bR hi,cK hi];simp only[cond_true,bind_some,Ws,ap,fO,aC];cases touchR part[i] x<;>rfl
theorem Ju {n:Nat} {l part:List ak} {i:Nat} (hi:i < part.length) (hp:part.length < 1099511627) (hl:l.length < 1099511627) (hn:l.length < n):
 gX n l (i:Int) part=some (match jw (fun x=>touchR part[i] x) l with
  |some k=>((k:Int),(i:Int),part++[l.getD k (ak.mk 0 0 0 0)])
  |none=>(-1,(i:Int),part)):=by
 unfold gX;have:=iJ (l:=l) (step:=eG l) (fun k=>(((k:Nat):Int),(i:Int),part)) (fun x=>touchR part[i] x) ((i:Int),part) (fun k=>((k:Int),(i:Int),part++[l.getD k (ak.mk 0 0 0 0)])) (fun k hk=>?_) ?_ n hn
 ·rw[show ((0:Nat):Int)=0 from rfl]at this;rw[this,aC];cases jw (fun x=>touchR part[i] x) l with
  |none=>simp
  |some k=>simp
 ·have hk':decide (((k:Nat):Int) < (l.length:Int))=true:=by simpa using hk
  simp only[eG,hk',cond_true,aN hk,bind_some,aC,Br hi hp];cases touchR part[i] l[k]with
  |true=>simp[hk]
  |false=>simp only[cond_false];rw[au (by omega)]
 ·simp[eG]
structure DelI (full:List ak) (off:Nat) (p:ak) (part:List ak) (j w:Nat) (arr prt:List ak):Prop where
 len:arr.length=full.length
 pre:arr.take (off+w)=full.take off++((full.drop off).take j).filter fun x=>!touchR p x
 post:arr.drop (off+j)=full.drop (off+j)
 wl:w=(((full.drop off).take j).filter fun x=>!touchR p x).length
 prt:prt=part++((full.drop off).take j).filter fun x=>touchR p x
theorem DelI.wle {full:List ak} {off:Nat} {p:ak} {part:List ak} {j w:Nat} {arr prt:List ak} (h:DelI full off p part j w arr prt):w<=j:=by
 rw[h.wl];exact Nat.le_trans (length_filter_le _ _) (by rw[length_take];omega)
theorem DelI.step {full:List ak} {off:Nat} {p:ak} {part:List ak} {j w:Nat} {arr prt:List ak} (h:DelI full off p part j w arr prt) (hj:off+j < full.length):
 (touchR p full[off+j]=true->DelI full off p part (j+1) w arr (prt++[full[off+j]]))∧(touchR p full[off+j]=false->DelI full off p part (j+1) (w+1) (arr.set (off+w) full[off+j]) prt):=by
 have hw:=h.wle;have ht:(full.drop off).take (j+1)=(full.drop off).take j++[full[off+j]]:=by rw[take_succ_eq_append_getElem (by rw[length_drop];omega),getElem_drop]
 have hpost:∀ arr':List ak,arr'.drop (off+j)=full.drop (off+j)->arr'.drop (off+(j+1))=full.drop (off+(j+1)):=fun arr' hh=>by
  have:=congrArg (List.drop 1) hh;rw[List.drop_drop,List.drop_drop]at this;exact this
 constructor
 ·intro hx;refine⟨h.len,?_,hpost _ h.post,?_,?_⟩
  ·rw[ht,filter_append];simp[hx,h.pre]
  ·rw[ht,filter_append];simp[hx,<- h.wl]
  ·rw[ht,filter_append];simp[hx,h.prt]
 ·intro hx;have hlt:off+w < arr.length:=by rw[h.len];omega
  refine⟨by rw[List.length_set];exact h.len,?_,?_,?_,?_⟩
  ·rw[ht,filter_append,show off+(w+1)=(off+w)+1 by omega,take_succ_eq_append_getElem (by rw[List.length_set];exact hlt),List.take_set_of_le (Nat.le_refl _),h.pre];simp[hx]
  ·refine hpost _ ?_;rcases Nat.lt_or_ge w j with hwj |hwj
   ·rw[List.drop_set_of_lt (by omega)];exact h.post
   ·have:w=j:=(by omega);subst this;rw[List.drop_set,if_neg (by omega),h.post];simp only[Nat.sub_self];rw[List.drop_eq_getElem_cons hj];rfl
  ·rw[ht,filter_append];simp[hx,<- h.wl]
  ·rw[ht,filter_append];simp[hx,h.prt]
theorem Uj {α:Type} {p:α->Bool}:∀ {l:List α} {k:Nat},jw p l=some k->∃ h:k < l.length,p l[k]=true∧(l.take k).filter p=[]∧(l.take k).filter (fun x=>!p x)=l.take k:=by
 intro l k h;rcases iZ p l with ⟨i,hi,h1,h2,h3⟩ |⟨h1,_⟩
 ·rw[h]at h1;injection h1 with h1;subst h1;have hall:∀ x∈l.take k,p x=false:=by
   intro x hx;obtain⟨j,hj,rfl⟩:=mem_iff_getElem.1 hx;rw[List.getElem_take];exact h3 j (by rw[length_take]at hj;omega)
  exact⟨hi,h2,List.filter_eq_nil_iff.2 fun x hx=>by simp[hall x hx],List.filter_eq_self.2 fun x hx=>by simp[hall x hx]⟩
 ·rw[h]at h1;cases h1
theorem HZ {n:Nat} {full part:List ak} {off i:Nat} (ho:off<=full.length) (hi:i < part.length) (hp:part.length+full.length < 109951162) (hn:full.length < n):
 fT n (off:Int) full (i:Int) part=some ((off:Int),full.take off++(full.drop off).filter (fun x=>!touchR part[i] x),(i:Int),part++(full.drop off).filter fun x=>touchR part[i] x):=by
 unfold fT;have e1:sub full off (full.length - off)=full.drop off:=by simp[sub,take_of_length_le]
 simp only[Int.toNat_natCast,e1,length_drop,aC,cond_true];rw[Ju hi (by omega) (by rw[length_drop];omega) (by rw[length_drop];omega),bind_some];cases hf:jw (fun x=>touchR part[i] x) (full.drop off)with
 |none=>
  have hno:∀ x∈full.drop off,touchR part[i] x=false:=by
   rcases iZ (fun x=>touchR part[i] x) (full.drop off)with ⟨k,hk,h1,_⟩ |⟨_,h2⟩
   ·rw[hf]at h1;cases h1
   ·exact h2
  have f1:(full.drop off).filter (fun x=>!touchR part[i] x)=full.drop off:=List.filter_eq_self.2 fun x hx=>by simp[hno x hx]
  have f2:(full.drop off).filter (fun x=>touchR part[i] x)=[]:=List.filter_eq_nil_iff.2 fun x hx=>by simp[hno x hx]
  have e2:off+(full.length - off)=full.length:=by omega
  simp only[beq_self_eq_true,cond_true,e2,aC,f1,f2,append_nil,List.take_append_drop]
 |some k=>
  obtain⟨hk,h2,h3,h4⟩:=Uj hf;rw[length_drop]at hk;rw[getElem_drop]at h2;have hkf:off+k < full.length:=by omega
  have e3:(full.drop off).getD k (ak.mk 0 0 0 0)=full[off+k]:=by rw[List.getD_eq_getElem?_getD,List.getElem?_drop,List.getElem?_eq_getElem hkf];rfl
  have e4:(((k:Nat):Int)== -1)=false:=by rw[beq_eq_false_iff_ne];omega
  simp only[e4,cond_false,aC,cond_true,e3];rw[au (by omega)];have start:DelI full off part[i] part (k+1) k full (part++[full[off+k]]):=by
   refine⟨rfl,?_,rfl,?_,?_⟩
   ·have ht:(full.drop off).take (k+1)=(full.drop off).take k++[full[off+k]]:=(by rw[take_succ_eq_append_getElem (by rw[length_drop];omega),getElem_drop]);rw[ht,filter_append,h4];simp only[h2,Bool.not_true,List.filter_cons,Bool.false_eq_true,if_false,List.filter_nil,append_nil];rw[List.take_add]
   ·have ht:(full.drop off).take (k+1)=(full.drop off).take k++[full[off+k]]:=(by rw[take_succ_eq_append_getElem (by rw[length_drop];omega),getElem_drop]);rw[ht,filter_append,h4];simp[h2];omega
   ·have ht:(full.drop off).take (k+1)=(full.drop off).take k++[full[off+k]]:=(by rw[take_succ_eq_append_getElem (by rw[length_drop];omega),getElem_drop]);rw[ht,filter_append,h3];simp[h2]
  have loop:∀ (m j w:Nat) (arr prt:List ak) (n:Nat),j+m=full.length - off->m < n->DelI full off part[i] part j w arr prt->
   ∃ (w':Nat) (arr' prt':List ak),iter (bF (off:Int) full) n ((w:Int),(j:Int),arr,(i:Int),prt)=some ((w':Int),arr',(i:Int),prt')∧DelI full off part[i] part (full.length - off) w' arr' prt':=by
   intro m
   induction m with
   |zero=>
    intro j w arr prt n hm hn hd;obtain⟨n,rfl⟩:∃ q,n=q+1:=⟨n - 1,by omega⟩;have hj:j=full.length - off:=(by omega);subst hj;refine⟨w,arr,prt,aJ ?_,hd⟩;simp[bF]
   |succ m ih=>
    intro j w arr prt n hm hn hd;obtain⟨n,rfl⟩:∃ q,n=q+1:=⟨n - 1,by omega⟩;have hjf:off+j < full.length:=(by omega);have hwj:=hd.wle;have hpl:prt.length<=part.length+full.length:=by
     rw[hd.prt,length_append];have:=length_filter_le (fun x=>touchR part[i] x) ((full.drop off).take j);rw[length_take,length_drop]at this;omega
    have hip:i < prt.length:=(by rw[hd.prt,length_append];omega);have hpi:prt[i]=part[i]:=by
     have:prt[i]? =part[i]? :=(by rw[hd.prt,List.getElem?_append_left hi]);rw[List.getElem?_eq_getElem hip,List.getElem?_eq_getElem hi]at this;exact Option.some.inj this
    have harr:arr[off+j]'(by rw[hd.len];exact hjf)=full[off+j]:=by
     have:=congrArg (fun l=>l[0]?) hd.post;simp only[List.getElem?_drop,Nat.add_zero]at this;rw[List.getElem?_eq_getElem hjf,List.getElem?_eq_getElem (by rw[hd.len];exact hjf)]at this;exact Option.some.inj this
    have c1:decide ((j:Int) < (((full.length - off:Nat):Int):Int))=true:=(by simp;omega);have at1:at? arr (((off:Nat):Int)+(j:Int))=some full[off+j]:=(by rw[show ((off:Int)+(j:Int))=((off+j:Nat):Int)by omega,AA,List.getElem?_eq_getElem (by rw[hd.len];exact hjf),harr]);have at2:∃ z,at? arr (((off:Nat):Int)+(w:Int))=some z:=by
     rw[show ((off:Int)+(w:Int))=((off+w:Nat):Int)by omega,AA];exact⟨_,List.getElem?_eq_getElem (by rw[hd.len];omega)⟩
    obtain⟨z,at2⟩:=at2;obtain⟨d1,d2⟩:=hd.step hjf;cases hx:touchR part[i] full[off+j]with
    |true=>
     have hs:bF (off:Int) full ((w:Int),(j:Int),arr,(i:Int),prt)=some (.inl ((w:Int),((j+1:Nat):Int),arr,(i:Int),prt++[full[off+j]])):=by
      simp only[bF,Int.toNat_natCast,c1,cond_true,XE,show decide (j < full.length - off)=true by simp;omega,at1,bind_some,aC,Br hip (by omega),hpi,hx,Bool.not_true,cond_false];rw[au (by omega)]
     rw[aV hs];exact ih (j+1) w arr _ n (by omega) (by omega) (d1 hx)
    |false=>
     have hs:bF (off:Int) full ((w:Int),(j:Int),arr,(i:Int),prt)=some (.inl (((w+1:Nat):Int),((j+1:Nat):Int),arr.set (off+w) full[off+j],(i:Int),prt)):=by
      simp only[bF,Int.toNat_natCast,c1,cond_true,XE,show decide (j < full.length - off)=true by simp;omega,at1,bind_some,aC,Br hip (by omega),hpi,hx,Bool.not_false,cond_false,show decide (w < full.length - off)=true by simp;omega,at2];rw[au (by omega),au (by omega),show (((off:Nat):Int)+(w:Int)).toNat=off+w by omega]
     rw[aV hs];exact ih (j+1) (w+1) _ prt n (by omega) (by omega) (d2 hx)
  obtain⟨w',arr',prt',h5,h6⟩:=loop (full.length - off - (k+1)) (k+1) k full _ n (by omega) (by omega) start;rw[h5];have hwl:=h6.wle;have htk:(full.drop off).take (full.length - off)=full.drop off:=take_of_length_le (by rw[length_drop];exact Nat.le_refl _);have hpre:=h6.pre;have hprt:=h6.prt;rw[htk]at hpre hprt;have e5:(arr'.take (off+w')).length=off+w':=by rw[length_take,h6.len];omega
  have s1:kI (w':Int) ((full.length - off:Nat):Int) (full.length - off)=true:=jB (by omega) (by omega) (by omega);have s2:kI 0 (w':Int) (full.length - off)=true:=jB (by omega) (by omega) (by omega);rw[hpre]at e5;simp only[bind_some,s1,s2,cond_true,Int.toNat_natCast,hpre,e5,aC,hprt]
def kG:Nat->List ak->Nat->List ak->List ak×List ak
 | 0,part,_,left=>(part,left)
 |f+1,part,i,left=>match part[i]? with
  |none=>(part,left)
  |some p=>kG f (part++left.filter fun x=>touchR p x) (i+1) (left.filter fun x=>!touchR p x)
theorem MU {α:Type} (p:α->Bool) (l:List α):(l.filter p).length+(l.filter fun x=>!p x).length=l.length:=by
 induction l with
 |nil=>rfl
 |cons x l ih=>cases h:p x<;>simp[h]<;>omega
theorem P5:∀ (f:Nat) (part left:List ak) (i:Nat),(kG f part i left).1.length+(kG f part i left).2.length=part.length+left.length
 | 0,_,_,_=>rfl
 |f+1,part,left,i=>by
  simp only[kG];split
  ·rfl
  ·rename_i p _;rw[P5 f,length_append];have:=MU (fun x=>touchR p x) left;omega
theorem Uk:∀ (f:Nat) (part left:List ak) (i:Nat),part.length<=(kG f part i left).1.length
 | 0,_,_,_=>Nat.le_refl _
 |f+1,part,left,i=>by
  simp only[kG];split
  ·exact Nat.le_refl _
  ·exact Nat.le_trans (by rw[length_append];omega) (Uk f _ _ _)
theorem RB:∀ (m f n:Nat) (full part:List ak) (off i:Nat),off<=full.length->part.length+(full.length - off)=i+m->m < f->part.length+full.length < 109951162->full.length < n->∀ k,m < k->
 ∃ full',off<=full'.length∧full'.length<=full.length∧full'.drop off=(kG f part i (full.drop off)).2∧
   iter (jW n) k ((off:Int),full,(i:Int),part)=some ((off:Int),full',(kG f part i (full.drop off)).1):=by
 intro m
 induction m with
 |zero=>
  intro f n full part off i ho hm hf hl hn k hk;obtain⟨k,rfl⟩:∃ q,k=q+1:=⟨k - 1,by omega⟩;obtain⟨f,rfl⟩:∃ q,f=q+1:=⟨f - 1,by omega⟩;have hi:part.length<=i:=by omega
  have hnone:part[i]? =none:=List.getElem?_eq_none hi;have e2:off+(full.length - off)=full.length:=by omega
  refine⟨full,ho,Nat.le_refl _,by simp only[kG,hnone],aJ ?_⟩;have c:decide ((i:Int) < ((part.length:Nat):Int))=false:=by simp;omega
  simp only[jW,c,cond_false,Int.toNat_natCast,e2,aC,cond_true,kG,hnone]
 |succ m ih=>
  intro f n full part off i ho hm hf hl hn k hk;obtain⟨k,rfl⟩:∃ q,k=q+1:=⟨k - 1,by omega⟩;obtain⟨f,rfl⟩:∃ q,f=q+1:=⟨f - 1,by omega⟩;have e2:off+(full.length - off)=full.length:=by omega
  by_cases hi:i < part.length
  ·have c:decide ((i:Int) < ((part.length:Nat):Int))=true:=(by simpa using hi);have ft:=MU (fun x=>touchR part[i] x) (full.drop off);rw[length_drop]at ft;have hfull:(full.take off++(full.drop off).filter fun x=>!touchR part[i] x).length=off+((full.drop off).filter fun x=>!touchR part[i] x).length:=(by rw[length_append,length_take,Nat.min_eq_left ho]);have hdrop:(full.take off++(full.drop off).filter fun x=>!touchR part[i] x).drop off=(full.drop off).filter fun x=>!touchR part[i] x:=by
    have:(full.take off).length=off:=(by rw[length_take,Nat.min_eq_left ho]);rw[List.drop_append_of_le_length (by omega),List.drop_of_length_le (by omega),nil_append]
   have hs:jW n ((off:Int),full,(i:Int),part)=some (.inl ((off:Int),full.take off++(full.drop off).filter (fun x=>!touchR part[i] x),((i+1:Nat):Int),part++(full.drop off).filter fun x=>touchR part[i] x)):=by
    simp only[jW,c,cond_true,Int.toNat_natCast,e2,aC,HZ ho hi hl hn,bind_some];rw[hfull,show off+(off+((full.drop off).filter fun x=>!touchR part[i] x).length - off)=off+((full.drop off).filter fun x=>!touchR part[i] x).length by omega,aC];simp only[cond_true];rw[au (by omega)]
   rw[aV hs]
   obtain⟨full',h1,h1',h2,h3⟩:=ih f n (full.take off++(full.drop off).filter fun x=>!touchR part[i] x) (part++(full.drop off).filter fun x=>touchR part[i] x) off (i+1) (by rw[hfull];omega) (by rw[hfull,length_append];omega) (by omega)
    (by rw[hfull,length_append];omega) (by rw[hfull];omega) k (by omega)
   refine⟨full',h1,Nat.le_trans h1' (by rw[hfull];omega),?_,?_⟩
   ·rw[h2,hdrop];simp only[kG,List.getElem?_eq_getElem hi]
   ·rw[h3,hdrop];simp only[kG,List.getElem?_eq_getElem hi]
  ·have hnone:part[i]? =none:=List.getElem?_eq_none (by omega);refine⟨full,ho,Nat.le_refl _,by simp only[kG,hnone],aJ ?_⟩;have c:decide ((i:Int) < ((part.length:Nat):Int))=false:=(by simp;omega);simp only[jW,c,cond_false,Int.toNat_natCast,e2,aC,cond_true,kG,hnone]
def MV:Nat->List ak->List (List ak)
 | 0,_=>[]
 |_+1,[]=>[]
 |f+1,x::xs=>iQ (bn (kG (xs.length+2) [x] 0 xs).1)::MV f (kG (xs.length+2) [x] 0 xs).2
def Wt (a:List ak):List (List ak):=bif jY a then MV (a.length+1) a else []
theorem P6:∀ (f:Nat) (part left:List ak) (i:Nat) (r:ak),(r∈(kG f part i left).1∨r∈(kG f part i left).2)↔(r∈part∨r∈left)
 | 0,_,_,_,_=>Iff.rfl
 |f+1,part,left,i,r=>by
  simp only[kG];split
  ·exact Iff.rfl
  ·rename_i p _;rw[P6 f,mem_append,mem_filter,mem_filter];cases h:touchR p r<;>simp
theorem RD {n:Nat} (hn:1000<=n):∀ (f:Nat) (full:List ak) (off:Nat) (out:List (List ak)),(∀ r∈full.drop off,OkR r=true)->off<=full.length->full.length<=200->out.length+(full.length - off)<=200->full.length - off < f->∀ k,full.length - off < k->
 iter (pQ n) k ((off:Int),full,out)=some (out++MV f (full.drop off)):=by
 intro f
 induction f with
 |zero=>intro full off out _ _ _ _ hf;omega
 |succ f ih=>
  intro full off out hv ho h6 hout hf k hk;obtain⟨k,rfl⟩:∃ q,k=q+1:=⟨k - 1,by omega⟩;by_cases h0:off < full.length
  ·have hd:full.drop off=full[off]::full.drop (off+1):=List.drop_eq_getElem_cons h0;have c:decide ((((full.length - off:Nat):Nat):Int)>0)=true:=(by simp;omega);have c2:inb 0 (full.length - off)=true:=(by have:=bR (i:=0) (n:=full.length - off) (by omega);simpa using this);have at0:at? full (((off:Nat):Int)+0)=some full[off]:=(by rw[Int.add_zero,aN h0]);have sl:kI 1 ((full.length - off:Nat):Int) (full.length - off)=true:=jB (by omega) (by omega) (by omega);have e1:off+1+(full.length - off - 1)=full.length:=(by omega);have hdl:(full.drop (off+1)).length=full.length - (off+1):=length_drop;obtain⟨full',g1,g1',g2,g3⟩:=RB (full.length - (off+1)+1) ((full.drop (off+1)).length+2) n full [full[off]] (off+1) 0 (by omega) (by simp;omega) (by omega) (by simp;omega) (by omega) n (by omega);have hg1:=P5 ((full.drop (off+1)).length+2) [full[off]] (full.drop (off+1)) 0;have hg2:=Uk ((full.drop (off+1)).length+2) [full[off]] (full.drop (off+1)) 0;have hg3:∀ r,(r∈(kG ((full.drop (off+1)).length+2) [full[off]] 0 (full.drop (off+1))).1∨r∈(kG ((full.drop (off+1)).length+2) [full[off]] 0 (full.drop (off+1))).2)->OkR r=true:=by
    intro r hr;rw[P6]at hr;refine hv r ?_;rw[hd,mem_cons];rcases hr with hr |hr
    ·exact .inl (by simpa using hr)
    ·exact .inr hr
   simp only[length_cons,length_nil]at hg1 hg2;generalize hG:kG ((full.drop (off+1)).length+2) [full[off]] 0 (full.drop (off+1))=G at*;have hG6:G.1.length<=200:=(by omega);have g3':iter (jW n) n ((((off+1:Nat)):Int),full,(0:Int),([full[off]]:List ak))=some (((off+1:Nat):Int),full',G.1):=g3;have s1:(sub ([G.1]:List (List ak)) 0 1)=[G.1]:=rfl;have lst:=Bo G.1;have w1:wW n (bn G.1)=some (iQ (bn G.1)):=I7 (b:=200) (by omega) (by omega) (fun s hs=>Nat.le_trans (I8 hs) hG6) (by omega) (by omega);have flat:[G.1].flatten=G.1:=(by simp);have st1:rQ n [G.1]=some (bn G.1):=by
    have:=FV (n:=n) (ls:=[G.1]) (by rw[flat];exact fun r hr=>hg3 r (.inl hr)) (by rw[flat];omega) (by simp) (by rw[flat];omega) (by simp;omega);rw[flat]at this;exact this
   have ap:bO out.length out.length ([iQ (bn G.1)]:List (List ak)).length 1 24=true:=eH (n:=1) (by omega) (by simp only[maxLen];omega);have s2:(sub ([iQ (bn G.1)]:List (List ak)) 0 1)=[iQ (bn G.1)]:=rfl;have q1:eqL ([G.1]:List (List ak)).length 1=true:=rfl;have q2:eqL 1 ([full[off]]:List ak).length=true:=rfl;have e3:off+1+(full'.length - (off+1))=full'.length:=(by omega);have hs:pQ n ((off:Int),full,out)=some (.inl (((off+1:Nat):Int),full',out++[iQ (bn G.1)])):=(by simp only[pQ,Int.toNat_natCast,c,c2,cond_true,at0,bind_some,sl,e1,aC,q2,g3',bS,s1,q1,st1,w1,s2,ap,fO,e3]);rw[aV hs];have hlen':full'.length - (off+1)=G.2.length:=(by rw[<- g2,length_drop]);rw[ih full' (off+1) _ (by rw[g2];exact fun r hr=>hg3 r (.inr hr)) (by omega) (by omega) (by simp;omega) (by omega) k (by omega),hd,g2];simp only[MV,hG,List.append_assoc,List.cons_append,nil_append]
  ·have hnil:full.drop off=[]:=List.drop_of_length_le (by omega);have c:decide ((((full.length - off:Nat):Nat):Int)>0)=false:=(by simp;omega);rw[hnil];refine aJ ?_;simp only[pQ,Int.toNat_natCast,c,cond_false,aC,cond_true,MV,append_nil]
theorem Y9 {a:List ak} (h:jY a=true):(∀ r∈a,OkR r=true)∧a.length<=200:=by
 unfold jY at h;rw[and_eq_true,decide_eq_true_eq,decide_eq_true_eq]at h;obtain⟨h1,h2⟩:=h;unfold ofL at h1 h2;split at h1
 ·rename_i hall;rw[if_pos hall]at h2;split at h1
  ·simp at h1
  ·rename_i h400;rw[if_neg h400]at h2;split at h1
   ·simp at h1
   ·rename_i h200;rw[if_neg h200]at h2;refine⟨all_eq_true.1 hall,?_⟩;rw[<- h2];show (iQ (bn a)).length<=200;omega
 ·simp at h1
theorem Ul {n:Nat} {a:List ak} (ha:a.length < 1099511627776) (ha2:a.length < n) (hn:1000<=n):FQ n a=some (Wt a):=by
 unfold FQ Wt;rw[Bp ha ha2 hn,bind_some];cases hr:jY a with
 |false=>rfl
 |true=>
  obtain⟨hv,h2⟩:=Y9 hr;simp only[Bool.not_true,cond_false,cond_true,xh (show a.length < 1099511627776 by omega),bind_some,Nat.zero_add,length_nil,aC];have:=RD hn (a.length+1) a 0 [] (by simpa using hv) (by omega) h2 (by simp;omega) (by omega) n (by omega);rw[this];simp only[bind_some,nil_append,List.drop_zero,bS,aC,cond_true]
def Wu (x:Int):Bool:=decide (1<=x)&&decide (x<=1073741824)
def ownB (x:Int):Bool:=decide (0<=x)&&decide (x<=1073741824)
theorem FX (x:Int):xg x=some (Wu x):=by unfold xg Wu;cases decide (1<=x)<;>rfl
theorem Um (x:Int):FP x=some (ownB x):=by unfold FP ownB;cases decide (0<=x)<;>rfl
def abR (l:List Int):Bool:=!((l.zip l.tail).any fun p=>decide (p.1>=p.2))
theorem Jv {n:Nat} {l:List Int} (hl:l.length < 1099511627776) (hn:l.length < n):rq n l=some (abR l):=by
 unfold rq abR;have hz:(l.zip l.tail).length=l.length - 1:=by rw[List.length_zip,List.length_tail];omega
 have:=iJ (l:=l.zip l.tail) (step:=lD l) (fun i=>((i+1:Nat):Int)) (fun p=>decide (p.1>=p.2)) () (fun _=>false) (fun i hi=>?_) ?_ n (by omega)
 ·rw[show ((0+1:Nat):Int)=1 from rfl]at this;rw[this,<- HY];cases jw _ (l.zip l.tail)<;>rfl
 ·rw[hz]at hi;have h1:i+1 < l.length:=by omega
  have c:decide (((i+1:Nat):Int) < (l.length:Int))=true:=by simp;omega
  have e:i64.wrap (((i+1:Nat):Int) - 1)=((i:Nat):Int):=by rw[show ((i+1:Nat):Int) - 1=((i:Nat):Int)by omega,jv (by omega)]
  have g:(l.zip l.tail)[i]=(l[i],l[i+1]):=by simp
  simp only[lD,c,cond_true,e,aN (show i < l.length by omega),aN h1,bind_some,g];cases decide (l[i]>=l[i+1])with
  |true=>rfl
  |false=>simp only[cond_false];rw[au (by omega)]
 ·have c:decide ((((l.zip l.tail).length+1:Nat):Int) < (l.length:Int))=false:=by rw[hz];simp;omega
  simp only[lD,c,cond_false]
theorem Cy {n:Nat} {l:List Int} {φ:(Int×Unit)->Option Bool} (p:Int->Bool) (h:∀ x∈l,φ (x,())=some (p x)) (hl:l.length < 1099511627776) (hn:l.length < n):kr n l φ=some (wQ p l):=jy p h hl hn
theorem y9 {n:Nat} {l:List Int} {φ:(Int×Unit)->Option Bool} (p:Int->Bool) (h:∀ x∈l,φ (x,())=some (p x)) (hl:l.length < 1099511627776) (hn:l.length < n):iE n l φ=some (l.any p):=by
 unfold iE;rw[Cy p h hl hn,bind_some,Q7]
def MW (t:bM):Bool:=Wu t.id&&(ownB t.owner&&(abR t.from_&&(!(t.from_.any fun x=>!Wu x)&&((Wt t.area).length:Int)==1)))
theorem Un {n:Nat} {t:bM} (h:zC t) (hn:1000<=n):Bd n t=some (MW t):=by
 unfold Bd MW;have h1:=h.1;have h2:=h.2;rw[FX,Um,Jv (by omega) (by omega),y9 (fun x=>!Wu x) (fun x _=>by show uW x=_;unfold uW;rw[FX];rfl) (by omega) (by omega),Ul (by omega) (by omega) hn];simp only[bind_some];cases Wu t.id<;>cases ownB t.owner<;>cases abR t.from_<;>cases (t.from_.any fun x=>!Wu x)<;>rfl
theorem Wv {V:Type} (k k':Int) (v:V) (l:List (Int×V)):eD iEq k (jq iEq k' v l)=bif k==k' then some v else eD iEq k l:=by
 induction l with
 |nil=>simp only[jq,eD,iEq]
 |cons p r ih=>
  simp only[jq,eD,iEq];cases h:k'==p.1 with
  |true=>
   have:=eq_of_beq h;simp only[cond_true,eD,iEq,<- this];cases k==k'<;>rfl
  |false=>
   simp only[cond_false,eD,iEq]at ih ⊢;rw[ih];cases h2:k==p.1 with
   |true=>
    have h2:=eq_of_beq h2;have:(k==k')=false:=(by rw[beq_eq_false_iff_ne]at h ⊢;omega);rw[this];rfl
   |false=>rfl
theorem Za {V:Type} (k k':Int) (v:V) (l:List (Int×V)):k∈(jq iEq k' v l).map (·.1)↔k=k'∨k∈l.map (·.1):=by
 induction l with
 |nil=>simp[jq]
 |cons p r ih=>
  simp only[jq,iEq];cases h:k'==p.1 with
  |true=>
   have:=eq_of_beq h;simp only[cond_true,map_cons,mem_cons,<- this];constructor
   ·rintro (h |h)
    ·exact .inl h
    ·exact .inr (.inr h)
   ·rintro (h |h |h)
    ·exact .inl h
    ·exact .inl h
    ·exact .inr h
  |false=>
   simp only[cond_false,map_cons,mem_cons,ih];constructor
   ·rintro (h |h |h)
    ·exact .inr (.inl h)
    ·exact .inl h
    ·exact .inr (.inr h)
   ·rintro (h |h |h)
    ·exact .inr (.inl h)
    ·exact .inl h
    ·exact .inr (.inr h)
theorem zF {V:Type} (v:V) (k:Int):∀ (xs:List Int) (l:List (Int×V)),k∈(xs.foldl (fun m x=>jq iEq x v m) l).map (·.1)↔k∈xs∨k∈l.map (·.1)
 |[],l=>by simp
 |x::xs,l=>by
  rw[foldl_cons,zF v k xs,Za,mem_cons];constructor
  ·rintro (h |h |h)
   ·exact .inl (.inr h)
   ·exact .inl (.inl h)
   ·exact .inr h
  ·rintro ((h |h) |h)
   ·exact .inr (.inl h)
   ·exact .inl h
   ·exact .inr (.inr h)
theorem Jb {α S O:Type} (bad:α->Bool) (o:O) (g:α->S->S) (fin:S->O):∀ (l:List α) (s:S),
 Fj (fun x s=>bif bad x then .inr o else .inl (g x s)) fin l s=bif l.any bad then o else fin (l.foldl (fun s x=>g x s) s)
 |[],s=>rfl
 |x::xs,s=>by
  simp only[Fj,List.any_cons,foldl_cons];cases bad x with
  |true=>rfl
  |false=>simp only[cond_false,Bool.false_or];exact Jb bad o g fin xs _
def xu (land:List bM):List (Option bM×bM):=(none::land.map some).zip land
def FY (p:Option bM×bM):Bool:=!MW p.2 || p.1.any fun u=>decide (u.id>=p.2.id)
def Jc (land:List bM):Bool:=
 !((xu land).any FY)&&(!(land.any fun t=>t.from_.any fun k=>land.any fun u=>u.id==k)&&!(land.zipIdx.any fun p=>(land.take p.2).any fun u=>I9 p.1.area u.area))
theorem Jw {n:Nat} {t:bM} (h:zC t) (hn:1000<=n) (m:List (Int×Bool)):iter (pR t) n ((0:Int),m)=some (t.from_.foldl (fun m x=>jq iEq x true m) m):=by
 have h2:=h.2;have:=nW (l:=t.from_) (step:=pR t) (fun i (s:List (Int×Bool))=>(((i:Nat):Int),s)) (fun x m=>jq iEq x true m) (fun s=>s) (fun i hi s=>?_) (fun s=>by simp[pR]) n (by omega) m
 ·exact this
 ·have hi':decide (((i:Nat):Int) < (t.from_.length:Int))=true:=by simpa using hi
  simp only[pR,hi',cond_true,aN hi,bind_some];rw[au (by omega)]
theorem kz (land:List bM):(xu land).length=land.length:=by simp[xu,List.length_zip]
theorem P7 {land:List bM} {i:Nat} (h:i < (xu land).length):(xu land)[i]=(if h0:i=0 then none else some (land[i - 1]'(by rw[kz]at h;omega)),land[i]'(by rw[kz]at h;exact h)):=by
 have hz:i < ((none::land.map some).zip land).length:=h;have:((none::land.map some).zip land)[i]=(if h0:i=0 then none else some (land[i - 1]'(by rw[kz]at h;omega)),land[i]'(by rw[kz]at h;exact h)):=by
  rw[List.getElem_zip];cases i with
  |zero=>simp
  |succ i=>simp
 exact this
theorem Jy {n:Nat} {land:List bM} (hl:land.length<=100) (h:∀ t∈land,zC t) (hn:1000<=n):
 iter (pU n land) n ((0:Int),([]:List (Int×Bool)),([]:List (Int×Bool)))=some (bif (xu land).any FY then .inr false else .inl (land.foldl (fun m t=>jq iEq t.id true m) [],land.foldl (fun m t=>t.from_.foldl (fun m x=>jq iEq x true m) m) [])):=by
 have hp:=kz land
 have:=Mg (l:=xu land) (step:=pU n land) (S:=List (Int×Bool)×List (Int×Bool)) (fun i s=>(((i:Nat):Int),s.1,s.2))
  (fun p s=>bif FY p then .inr (.inr false)else .inl (jq iEq p.2.id true s.1,p.2.from_.foldl (fun m x=>jq iEq x true m) s.2)) (fun s=> .inl s) (fun _ _=>True) (fun i hi s _=>⟨?_,fun _ _=>trivial⟩) (fun s _=>by simp[pU,hp]) n (by omega) ([],[]) trivial
 ·rw[show ((0:Nat):Int)=0 from rfl]at this;rw[this,Jb];have e:∀ (ps:List (Option bM×bM)) (s:List (Int×Bool)×List (Int×Bool)),ps.foldl (fun s p=>(jq iEq p.2.id true s.1,p.2.from_.foldl (fun m x=>jq iEq x true m) s.2)) s=((ps.map (·.2)).foldl (fun m t=>jq iEq t.id true m) s.1,(ps.map (·.2)).foldl (fun m t=>t.from_.foldl (fun m x=>jq iEq x true m) m) s.2):=by
   intro ps
   induction ps with
   |nil=>intro s;rfl
   |cons p ps ih=>intro s;simp only[foldl_cons,map_cons,ih]
  rw[e];have em:(xu land).map (·.2)=land:=by
   unfold xu;rw[show (fun p:Option bM×bM=>p.2)=Prod.snd from rfl,List.map_snd_zip];simp
  rw[em]
 ·rw[P7 hi];rw[hp]at hi;have hi':decide (((i:Nat):Int) < (land.length:Int))=true:=by simpa using hi
  have ht:=h _ (getElem_mem hi);have body:((Bd n land[i]).bind fun r1=>(bif (!r1)then some true else (bif (decide (((i:Nat):Int)>(0:Int)))then (at? land (i64.wrap (((i:Nat):Int) - 1))).bind fun x2=>some (decide (x2.id>=(land[i].id:Int)))else some false)):Option Bool)=some (FY (if h0:i=0 then none else some (land[i - 1]'(by omega)),land[i])):=by
   rw[Un ht hn,bind_some];unfold FY;by_cases h0:i=0
   ·subst h0;simp only[dif_pos];cases MW land[0]<;>rfl
   ·have c:decide (((i:Nat):Int)>0)=true:=(by simp;omega);have e:i64.wrap (((i:Nat):Int) - 1)=((i - 1:Nat):Int):=(by rw[show ((i:Nat):Int) - 1=((i - 1:Nat):Int)by omega,jv (by omega)]);simp only[dif_neg h0,c,cond_true,e,aN (show i - 1 < land.length by omega),bind_some];cases MW land[i]<;>rfl
  simp only[pU,hi',cond_true,aN hi,bind_some];rw[body,bind_some];cases FY (if h0:i=0 then none else some (land[i - 1]'(by omega)),land[i])with
  |true=>rfl
  |false=>
   simp only[cond_false];rw[Jw ht hn,bind_some,au (by omega)]
theorem zG (w:List (Int×Bool)):∀ ks:List Int,Fa (Be w) ks ()=some (bif ks.any (fun k=>(eD iEq k w).getD false)then .inr false else .inl ())
 |[]=>rfl
 |k::ks=>by
  have ih:=zG w ks;simp only[Fa,Be,List.any_cons];cases (eD iEq k w).getD false with
  |true=>rfl
  |false=>simpa using ih
theorem aaX (land:List bM) (k:Int):(eD iEq k (land.foldl (fun m t=>jq iEq t.id true m) [])).getD false=land.any fun u=>u.id==k:=by
 have gen:∀ (l:List bM) (m:List (Int×Bool)),(eD iEq k (l.foldl (fun m t=>jq iEq t.id true m) m)).getD false=((l.any fun u=>u.id==k) || (eD iEq k m).getD false):=by
  intro l
  induction l with
  |nil=>intro m;rfl
  |cons t l ih=>
   intro m;rw[foldl_cons,ih,Wv,List.any_cons,show (k==t.id)=(t.id==k)by rw[Bool.eq_iff_iff,beq_iff_eq,beq_iff_eq];exact⟨Eq.symm,Eq.symm⟩];cases t.id==k<;>cases (l.any fun u=>u.id==k)<;>rfl
 rw[gen];simp[eD]
theorem Uo (land:List bM) (k:Int):k∈(land.foldl (fun m t=>t.from_.foldl (fun m x=>jq iEq x true m) m) ([]:List (Int×Bool))).map (·.1)↔∃ t∈land,k∈t.from_:=by
 have gen:∀ (l:List bM) (m:List (Int×Bool)),k∈(l.foldl (fun m t=>t.from_.foldl (fun m x=>jq iEq x true m) m) m).map (·.1)↔(∃ t∈l,k∈t.from_)∨k∈m.map (·.1):=by
  intro l
  induction l with
  |nil=>intro m;simp
  |cons t l ih=>
   intro m;rw[foldl_cons,ih,zF];constructor
   ·rintro (⟨u,hu,hk⟩ |h |h)
    ·exact .inl ⟨u,List.mem_cons_of_mem _ hu,hk⟩
    ·exact .inl ⟨t,mem_cons_self,h⟩
    ·exact .inr h
   ·rintro (⟨u,hu,hk⟩ |h)
    ·rcases mem_cons.1 hu with rfl |hu
     ·exact .inr (.inl hk)
     ·exact .inl ⟨u,hu,hk⟩
    ·exact .inr (.inr h)
 rw[gen];simp
theorem Jz {n:Nat} {land:List bM} (hl:land.length<=100) (h:∀ t∈land,zC t) (hn:1000<=n):
 dm (iter (pV n land) n (0:Int)) (fun ()=>some true)=some (!(land.zipIdx.any fun p=>(land.take p.2).any fun u=>I9 p.1.area u.area)):=by
 have hz:land.zipIdx.length=land.length:=List.length_zipIdx;have:=iJ (l:=land.zipIdx) (step:=pV n land) (fun i=>((i:Nat):Int)) (fun p=>(land.take p.2).any fun u=>I9 p.1.area u.area) () (fun _=>false) (fun i hi=>?_) ?_ n (by omega)
 ·rw[show ((0:Nat):Int)=0 from rfl]at this;rw[this,<- HY];cases jw _ land.zipIdx<;>rfl
 ·have g:land.zipIdx[i]=(land[i]'(by omega),i):=by simp
  rw[g];rw[hz]at hi;have c:decide (((i:Nat):Int) < (land.length:Int))=true:=by simpa using hi
  have hlt:(land.take i).length=i:=by rw[length_take];omega
  have inner:=iJ (l:=land.take i) (step:=uX n land ((i:Nat):Int)) (fun k=>((k:Nat):Int)) (fun u=>I9 land[i].area u.area) () (fun _=>(.inr (.inr false):Int ⊕ (Unit ⊕ Bool))) (fun k hk=>?_) ?_ n (by omega)
  ·rw[show ((0:Nat):Int)=0 from rfl]at inner;simp only[pV,c,cond_true,inner];rw[<- HY];cases jw (fun u=>I9 land[i].area u.area) (land.take i)with
   |some k=>rfl
   |none=>simp only[iH,cond_false];rw[au (by omega)]
  ·rw[hlt]at hk;have c2:decide (((k:Nat):Int) < ((i:Nat):Int))=true:=(by simpa using hk);have hkl:k < land.length:=(by omega);have a1:=(h _ (getElem_mem hi)).1;have a2:=(h _ (getElem_mem hkl)).1;simp only[uX,c2,cond_true,aN hi,aN hkl,bind_some,List.getElem_take,Wm (n:=n) (show land[i].area.length < 1099511627776 by omega) (show land[k].area.length < 1099511627776 by omega) (by omega) (by omega)];cases I9 land[i].area land[k].area with
   |true=>rfl
   |false=>simp only[cond_false];rw[au (by omega)]
  ·rw[hlt];simp[uX]
 ·rw[hz];simp[pV]
theorem Uq {n:Nat} {land:List bM} (hl:land.length<=100) (h:∀ t∈land,zC t) (hn:1000<=n):FR n land=some (Jc land):=by
 unfold FR Jc;have c:decide (((land.length:Nat):Int)>20000)=false:=by simp;omega
 rw[c];simp only[cond_false];rw[Jy hl h hn,Jz hl h hn];cases (xu land).any FY with
 |true=>rfl
 |false=>
  simp only[cond_false,iH];rw[Tt,VK (o:=bif (land.any fun t=>t.from_.any fun k=>land.any fun u=>u.id==k)then .inr false else .inl ()) (fun ks hks=>?_)]
  ·cases (land.any fun t=>t.from_.any fun k=>land.any fun u=>u.id==k)<;>rfl
  ·rw[zG];have:ks.any (fun k=>(eD iEq k (land.foldl (fun m t=>jq iEq t.id true m) [])).getD false)=land.any fun t=>t.from_.any fun k=>land.any fun u=>u.id==k:=by
    rw[Bool.eq_iff_iff];simp only[any_eq_true,aaX];constructor
    ·rintro⟨k,hk,hu⟩;obtain⟨t,ht,hkt⟩:=(Uo land k).1 (hks.mem_iff.2 hk);exact⟨t,ht,k,hkt,hu⟩
    ·rintro⟨t,ht,k,hkt,hu⟩;exact⟨k,hks.mem_iff.1 ((Uo land k).2 ⟨t,ht,hkt⟩),hu⟩
   rw[this]
theorem P8 {land:List bM} (h:Jc land=true):∀ (i j:Nat) (hj:j < land.length) (hij:i < j),(land[i]'(by omega)).id < land[j].id:=by
 unfold Jc at h;rw[and_eq_true]at h;have h1:=h.1;have adj:∀ (i:Nat) (hi:i+1 < land.length),(land[i]'(by omega)).id < land[i+1].id:=by
  intro i hi;have hm:(xu land)[i+1]'(by rw[kz];exact hi)∈xu land:=getElem_mem _;rw[P7]at hm;simp only[Nat.succ_ne_zero,dif_neg,not_false_eq_true,Nat.add_sub_cancel]at hm;have h1':(xu land).any FY=false:=by simpa using h1
  have:=List.any_eq_false.1 h1' _ hm;simp only[FY,Option.any_some,Bool.or_eq_true,not_or]at this;have:=this.2;simp only[decide_eq_true_eq]at this;omega
 intro i j
 induction j with
 |zero=>intro _ h;omega
 |succ j ih=>
  intro hj hij;rcases Nat.lt_or_ge i j with h |h
  ·exact Int.lt_trans (ih (by omega) h) (adj j hj)
  ·have:i=j:=(by omega);subst this;exact adj i hj
theorem Ur {land:List bM} (h:Jc land=true) {t:bM} (ht:t∈land):aK land t.id=(t,true):=by
 unfold aK;cases hf:land.find? fun u=>u.id==t.id with
 |none=>
  have:=List.find?_eq_none.1 hf t ht;simp at this
 |some u=>
  have hu:=List.mem_of_find?_eq_some hf;have e:=List.find?_some hf;have e:=eq_of_beq e;obtain⟨i,hi,rfl⟩:=mem_iff_getElem.1 hu;obtain⟨j,hj,rfl⟩:=mem_iff_getElem.1 ht;rcases Nat.lt_trichotomy i j with hl |hl |hl
  ·have:=P8 h i j hj hl;omega
  ·subst hl;rfl
  ·have:=P8 h j i hi hl;omega
def XV (a b:List ak) (d:Int):Bool:=(yZ a b).2&&decide ((yZ a b).1<=d)
theorem foldl_min {α:Type} (g:α->Int) (d:Int):∀ (l:List α) (m:Int),l.foldl (fun m x=>min m (g x)) m<=d↔m<=d∨∃ x∈l,g x<=d
 |[],m=>by simp
 |x::l,m=>by
  rw[foldl_cons,foldl_min g d l];constructor
  ·rintro (h |⟨y,hy,h⟩)
   ·rcases Int.le_total m (g x)with hc |hc
    ·left;omega
    ·right;exact⟨x,by simp,by omega⟩
   ·right;exact⟨y,by simp[hy],h⟩
  ·rintro (h |⟨y,hy,h⟩)
   ·left;omega
   ·rcases mem_cons.1 hy with rfl |hy
    ·left;omega
    ·right;exact⟨y,hy,h⟩
theorem Ww (a b:List ak) (d m:Int):a.foldl (fun m x=>b.foldl (fun m y=>min m (MN x y)) m) m<=d↔m<=d∨∃ x∈a,∃ y∈b,MN x y<=d:=by
 induction a generalizing m with
 |nil=>simp
 |cons x a ih=>
  rw[foldl_cons,ih,foldl_min];constructor
  ·rintro ((h |⟨y,hy,h⟩) |⟨z,hz,h⟩)
   ·exact .inl h
   ·exact .inr ⟨x,by simp,y,hy,h⟩
   ·exact .inr ⟨z,by simp[hz],h⟩
  ·rintro (h |⟨z,hz,y,hy,h⟩)
   ·exact .inl (.inl h)
   ·rcases mem_cons.1 hz with rfl |hz
    ·exact .inl (.inr ⟨y,hy,h⟩)
    ·exact .inr ⟨z,hz,y,hy,h⟩
theorem nk {a0 a1 b0 b1 d:Int} (ha:a0 < a1) (hb:b0 < b1) (hd:0<=d):max a0 b0 - min a1 b1<=d↔∃ p q,(a0<=p∧p < a1)∧(b0<=q∧q < b1)∧p - q<=d+1∧q - p<=d+1:=by
 constructor
 ·intro h;by_cases c1:a1<=b0
  ·exact⟨a1 - 1,b0,by omega,by omega,by omega,by omega⟩
  ·by_cases c2:b1<=a0
   ·exact⟨a0,b1 - 1,by omega,by omega,by omega,by omega⟩
   ·exact⟨max a0 b0,max a0 b0,by omega,by omega,by omega,by omega⟩
 ·rintro⟨p,q,h1,h2,h3,h4⟩;omega
def aaY (d px py qx qy:Int):Prop:=(px - qx<=d+1∧qx - px<=d+1)∧(py - qy<=d+1∧qy - py<=d+1)
theorem MX {x y:ak} (hx:OkR x=true) (hy:OkR y=true) (d:Int):MN x y<=d↔0<=d∧∃ px py qx qy,((x.x0<=px∧px < x.x1)∧(x.y0<=py∧py < x.y1))∧((y.x0<=qx∧qx < y.x1)∧(y.y0<=qy∧qy < y.y1))∧aaY d px py qx qy:=by
 have ox:=hx;have oy:=hy;simp only[OkR,and_eq_true,decide_eq_true_eq]at ox oy;unfold MN;rw[hx,hy];simp only[Bool.not_true,Bool.or_self,cond_false];rw[dV (by omega) (by omega),dV (by omega) (by omega)];constructor
 ·intro h;have hd:0<=d:=by omega
  obtain⟨px,qx,x1,x2,x3,x4⟩:=(nk (show x.x0 < x.x1 by omega) (show y.x0 < y.x1 by omega) hd).1 (by omega);obtain⟨py,qy,y1,y2,y3,y4⟩:=(nk (show x.y0 < x.y1 by omega) (show y.y0 < y.y1 by omega) hd).1 (by omega);exact⟨hd,px,py,qx,qy,⟨x1,y1⟩,⟨x2,y2⟩,⟨x3,x4⟩,y3,y4⟩
 ·rintro⟨hd,px,py,qx,qy,⟨x1,y1⟩,⟨x2,y2⟩,⟨x3,x4⟩,y3,y4⟩;have h1:=(nk (show x.x0 < x.x1 by omega) (show y.x0 < y.x1 by omega) hd).2 ⟨px,qx,x1,x2,x3,x4⟩;have h2:=(nk (show x.y0 < x.y1 by omega) (show y.y0 < y.y1 by omega) hd).2 ⟨py,qy,y1,y2,y3,y4⟩;omega
theorem za (l:List ak) (x y:Int):Ry l x y=true↔∃ r∈l,(r.x0<=x∧x < r.x1)∧(r.y0<=y∧y < r.y1):=by simp[Ry]
theorem Zb {a b:List ak} (d:Int):XV a b d=true↔(a≠[]∧b≠[]∧jY a=true∧jY b=true)∧(1048576<=d∨(0<=d∧∃ px py qx qy,Ry a px py=true∧Ry b qx qy=true∧aaY d px py qx qy)):=by
 unfold XV yZ;by_cases ha:a=[]
 ·simp[ha]
 by_cases hb:b=[]
 ·simp[hb]
 cases ra:jY a with
 |false=>simp
 |true=>
  cases rb:jY b with
  |false=>simp
  |true=>
   obtain⟨a1,_,_⟩:=FW ra;obtain⟨b1,_,_⟩:=FW rb;simp only[ha,hb,decide_false,Bool.not_true,Bool.or_self,cond_false,Bool.true_and,decide_eq_true_eq,ne_eq,not_false_eq_true,and_self,true_and];rw[Ww];refine or_congr Iff.rfl ?_;constructor
   ·rintro⟨x,hx,y,hy,h⟩;obtain⟨hd,px,py,qx,qy,h1,h2,h3⟩:=(MX (a1 x hx) (b1 y hy) d).1 h;exact⟨hd,px,py,qx,qy,(za _ _ _).2 ⟨x,hx,h1⟩,(za _ _ _).2 ⟨y,hy,h2⟩,h3⟩
   ·rintro⟨hd,px,py,qx,qy,h1,h2,h3⟩;obtain⟨x,hx,g1⟩:=(za _ _ _).1 h1;obtain⟨y,hy,g2⟩:=(za _ _ _).1 h2;exact⟨x,hx,y,hy,(MX (a1 x hx) (b1 y hy) d).2 ⟨hd,px,py,qx,qy,g1,g2,h3⟩⟩
theorem XW (ds:List (ByteArray×ET)) (s:List UInt8):∀ (k:Nat) (i:Int),Fz ds s k=some i->0<=i∧i < (k:Int)
 | 0,i,h=>by simp[Fz]at h
 |k+1,i,h=>by
  simp only[Fz]at h;split at h
  ·cases h;omega
  ·have:=XW ds s k i h;omega
theorem abS {ds:List (ByteArray×ET)} (h:wtD ds<=4000000):Oe (jG ds) ds.length:=by
 have hl:=J2 ds;refine⟨by simp[jG],by omega,fun l hl=>?_⟩;simp only[jG,mem_map]at hl;obtain⟨d,hd,rfl⟩:=hl;have h1:=J3 hd;have h2:=ET.names_wt d.2;have h3:=TS d.2.names;refine⟨Nat.le_trans (List.length_filterMap_le _ _) (by omega),fun k hk=>?_⟩;simp only[dI,List.mem_filterMap]at hk;obtain⟨s,_,hk⟩:=hk;exact XW ds s _ k hk
theorem Us {n:Nat} {M:List ByteArray} (hM:M.length<=1000) (hn:1001<=n) (w0:List (ByteArray×Bool)):∃ w,iter (jA M) n ((0:Int),w0)=some w:=by
 obtain⟨o,h,_⟩:=d9 (step:=jA M) (fun i (v:Int×List (ByteArray×Bool))=>∃ w,v=((i:Int),w)∧i<=M.length) (fun _=>True) M.length (fun k v ⟨_,_,h⟩=>h) (by
  rintro i v ⟨w,rfl,hi⟩;by_cases hlt:i < M.length
  ·simp only[jA,show decide ((i:Int) < (M.length:Int))=true from by simp;omega,cond_true,bR hlt,cK hlt,bind_some,au (show i < 9223372036854775807 by omega)];exact .inl ⟨_,rfl,_,rfl,hlt⟩
  ·simp only[jA,show decide ((i:Int) < (M.length:Int))=false from by simp;omega,cond_false];exact .inr ⟨_,rfl,trivial⟩) n 0 ((0:Int),w0) ⟨_,rfl,Nat.zero_le _⟩ (by omega)
 exact⟨o,h⟩
theorem Ut {n:Nat} {p:dn} (hp:p.defs.length<=4000000) (hn:4000001<=n) (w0:List (ByteArray×Bool)):iter (gF p) n ((0:Int),w0)=some (.inl ())∨iter (gF p) n ((0:Int),w0)=some (.inr ([],[],5)):=by
 obtain⟨o,h,h2⟩:=d9 (step:=gF p) (fun i (v:Int×List (ByteArray×Bool))=>∃ w,v=((i:Int),w)∧i<=p.defs.length) (fun o=>o= .inl ()∨o= .inr ([],[],5)) p.defs.length (fun k v ⟨_,_,h⟩=>h) (by
  rintro i v ⟨w,rfl,hi⟩;by_cases hlt:i < p.defs.length
  ·simp only[gF,show decide ((i:Int) < (p.defs.length:Int))=true from by simp;omega,cond_true,aN hlt,bind_some,au (show i < 9223372036854775807 by omega)];cases (eD sEq p.defs[i].name w).getD false with
   |true=>exact .inr ⟨_,rfl,.inr rfl⟩
   |false=>exact .inl ⟨_,rfl,_,rfl,hlt⟩
  ·simp only[gF,show decide ((i:Int) < (p.defs.length:Int))=false from by simp;omega,cond_false];exact .inr ⟨_,rfl,.inl rfl⟩) n 0 ((0:Int),w0) ⟨_,rfl,Nat.zero_le _⟩ (by omega)
 rcases h2 with rfl |rfl
 ·exact .inl h
 ·exact .inr h
theorem Uu:∃ M,qz=some M∧M.length=9:=⟨_,rfl,rfl⟩
def DefsOk (l:List iM):Prop:=wtD (l.map toD)<=4000000
theorem DefsOk.len {l:List iM} (h:DefsOk l):l.length<=4000000:=by
 have:=J2 (l.map toD);rw[length_map]at this;unfold DefsOk at h;omega
theorem DefsOk.body {l:List iM} (h:DefsOk l) {d:iM} (hd:d∈l):(toE (aW.mk d.body_op d.body_n d.body_s d.body_key d.body_args)).wt<=4000000:=by
 have h1:=J3 (mem_map.2 ⟨d,hd,rfl⟩:toD d∈l.map toD);unfold DefsOk at h;simp only[toD,ET.wt]at h1;simp only[toE,ET.wt];omega
theorem JA {n:Nat} {p:dn} (hp:DefsOk p.defs) (hn:5000003<=n):∃ r,rf n p=some r∧r.1.length<=p.defs.length∧∀ k∈r.1,0<=k∧k < (p.defs.length:Int):=by
 obtain⟨M,hM,hM9⟩:=Uu;obtain⟨w,hw⟩:=Us (n:=n) (M:=M) (by omega) (by omega) [];have hg:Oe (jG (p.defs.map toD)) p.defs.length:=by have:=abS hp;rwa [length_map]at this
 have hng:gD p.defs=some (p.defs,jG (p.defs.map toD)):=by
  unfold gD;rw[Nat.ble_eq_true_of_le hp];rfl
 simp only[rf,hM,bind_some,hw];rcases Ut (n:=n) (p:=p) hp.len (by omega) w with h |h
 ·obtain⟨c,hc,hc2⟩:=Ub (n:=n) (a0:=p.defs) hg rfl hn;simp only[h,iH,hng,bind_some,hc];cases h0:(c.length==0)with
  |true=>
   have e:c=[]:=List.eq_nil_of_length_eq_zero (by simpa using h0);obtain⟨l,hl,hll,hlr⟩:=aaQ (n:=n) (a0:=jR.mk p.defs (jG (p.defs.map toD))) hg rfl (hc2 e) (by omega);simp only[cond_true,bind_some,cond_false,hl,bS,aC];exact⟨_,rfl,by simp[hll],hlr⟩
  |false=>
   simp only[cond_true,bind_some,cond_false,bS,aC];exact⟨_,rfl,by simp,by simp⟩
 ·simp only[h,Cc];exact⟨_,rfl,by simp,by simp⟩
theorem Bt (x:aW):aW.mk x.op x.n x.s x.key x.args=x:=by cases x;rfl
theorem FZ:∀ l:List aW,Bb l=l.map toE
 |[]=>rfl
 |x::xs=>by simp only[Bb,map_cons,FZ xs]
theorem XY:∀ {l:List ET} {t:ET},t∈l->t.wt<=ET.wtL l
 |x::l,t,h=>by
  simp only[ET.wtL];rcases mem_cons.1 h with rfl |h
  ·omega
  ·have:=XY h;omega
theorem aaZ {e x:aW} (h:x∈e.args):(toE x).wt < (toE e).wt:=by
 have h1:(toE x).wt<=ET.wtL (Bb e.args):=XY (by rw[FZ];exact mem_map.2 ⟨x,h,rfl⟩);cases e;simp only[toE,ET.wt]at *;omega
theorem XZ (e:aW):e.args.length < (toE e).wt:=by
 have h1:=ET.len_wt (Bb e.args);rw[FZ,length_map]at h1;cases e;simp only[toE,ET.wt,FZ]at *;omega
def VR:Nat->aW->Prop
 | 0,_=>False
 |k+1,e=>sS e.op=some ((e.args.length:Int),true)∧∀ x∈e.args,VR k x
theorem Wx (op:Int):∃ a b,sS op=some (a,b):=by
 simp only[sS];cases (op==0)<;>cases (op==1)<;>cases (op==2)<;>cases (op==3)<;>cases (op==9)<;>cases (op==15)<;>cases (op==16)<;>cases (decide (op>=0))<;>exact⟨_,_,rfl⟩
theorem P9 {n:Nat} (hn:4000002<=n):∀ (m:Nat) (e:aW) (a:Int),m<=9223372036854775000->0<=a->a<=12->13<=a+m->(toE e).wt<=4000000->∃ r,l7 n m e a=some r∧1<=r∧r<=13+m∧(r<=12->VR m e)
 | 0,_,_,_,_,_,h,_=>absurd h (by omega)
 |m+1,e,a,hm,h0,h1,h2,h3=>by
  obtain⟨x,b,hx⟩:=Wx e.op;have hla:=XZ e;show ∃ r,uT n (l7 n m) e a=some r∧_;simp only[uT,hx,bind_some];have bad:∃ r,some (13:Int)=some r∧1<=r∧r<=13+((m+1:Nat):Int)∧(r<=12->VR (m+1) e):=⟨13,rfl,by omega,by omega,fun h=>absurd h (by omega)⟩;cases b with
  |false=>simpa only[Bool.not_false,cond_true,bind_some]using bad
  |true=>
   simp only[Bool.not_true,cond_false];by_cases hxl:x=(e.args.length:Int)
   ·subst hxl;simp only[show (((e.args.length:Nat):Int) != ((e.args.length:Nat):Int))=false from by simp,cond_false,bind_some];by_cases ha:a>=12
    ·simpa only[ha,decide_true,cond_true]using bad
    ·simp only[ha,decide_false,cond_false]
     obtain⟨o,g1,g2,g3,g4⟩:=d9 (step:=q9 n (l7 n m) e a) (fun i (v:Int×Int)=>v.2=(i:Int)∧i<=e.args.length∧0<=v.1∧v.1<=13+m∧(v.1<=11->∀ y∈e.args.take i,VR m y))
      (fun o=>0<=o∧o<=13+m∧(o<=11->∀ y∈e.args,VR m y)) e.args.length (fun k v h=>h.2.1) (by
      rintro i ⟨v2,v3⟩ ⟨hv,hi,i1,i2,i3⟩;simp only at hv i1 i2 i3;subst hv;by_cases hlt:i < e.args.length
      ·left;have hwx:=aaZ (getElem_mem hlt);obtain⟨r,r1,r2,r3,r4⟩:=P9 hn m e.args[i] (a+1) (by omega) (by omega) (by omega) (by omega) (by omega);refine⟨(max v2 r,((i+1:Nat):Int)),?_,rfl,hlt,by show 0<=max v2 r;omega,by show max v2 r<=_;omega,fun h y hy=>?_⟩
       ·simp only[q9,show decide ((i:Int) < (e.args.length:Int))=true from by simp;omega,cond_true,aN hlt,bind_some,Bt,dV (show -9223372036854775808<=a+1 by omega) (show a+1<=9223372036854775807 by omega),r1,au (show i < 9223372036854775807 by omega)]
       ·have h':max v2 r<=11:=h;rw[List.take_add_one,List.getElem?_eq_getElem hlt]at hy;rw[mem_append]at hy;rcases hy with hy |hy
        ·exact i3 (by omega) y hy
        ·simp at hy;subst hy;exact r4 (by omega)
      ·right;refine⟨v2,?_,i1,i2,fun h y hy=>i3 h y (by rw[take_of_length_le (by omega)];exact hy)⟩;simp only[q9,show decide ((i:Int) < (e.args.length:Int))=false from by simp;omega,cond_false]) n 0 ((0:Int),(0:Int)) ⟨rfl,Nat.zero_le _,by simp,by show (0:Int)<=_;omega,by simp⟩ (by omega)
     simp only[g1,bind_some];rw[dV (by omega) (by omega)];exact⟨o+1,rfl,by omega,by omega,fun h=>⟨hx,g4 (by omega)⟩⟩
   ·simpa only[show (x != ((e.args.length:Nat):Int))=true from by simpa using hxl,cond_true,bind_some]using bad
theorem Uv {n:Nat} (hn:4000002<=n) (hn2:n<=9223372036854775000) {e:aW} (h:(toE e).wt<=4000000):∃ b,w9 n e=some b∧(b=true->VR n e):=by
 obtain⟨r,h1,h2,h3,h4⟩:=P9 hn n e 0 hn2 (by omega) (by omega) (by omega) h;refine⟨decide (r<=12),?_,fun h=>h4 (by simpa using h)⟩;simp only[w9,Bt,Ht,h1,bind_some]
def abT (tables:List bB) (s key:ByteArray):Int:=match tables.find? fun t=>ByteArray.toList t.name==ByteArray.toList s with
 |some t=>abQ t key
 |none=>0
def X0 (ts:List bB):Prop:=ts.length<=4000000∧∀ t∈ts,t.rows.length<=4000000
theorem Qa {n:Nat} (hn:4000002<=n) {a0:List iM} {ts:List bB} {a2:List pE} {a3:List pF} {a4:List AZ} {a5:List pG} {a6:List fP} {a7:Int} {zs:List ByteArray} (ht:X0 ts) (e:aW) (kn:List (ByteArray×Int)):jI n a0 ts a2 a3 a4 a5 a6 a7 zs e kn=some (abT ts e.s e.key,kn):=by
 have h1:=ht.1;simp only[jI,Bt];rw[nK (fun t=>ByteArray.toList t.name==ByteArray.toList e.s) (fun x _=>rfl) (by omega) (by omega)];simp only[bind_some,abT];rcases y7 (fun t:bB=>ByteArray.toList t.name==ByteArray.toList e.s) ts with ⟨i,hi,h1,h2⟩ |⟨h1,h2⟩
 ·rw[h1,h2];have d:decide (((i:Nat):Int) < 0)=false:=by simp
  have hr:=ht.2 _ (getElem_mem hi);simp only[d,cond_false,aN hi,bind_some];rw[nL (fun x=>ByteArray.toList x.name==ByteArray.toList e.key) (fun x _=>rfl) (by omega) (by omega)];simp only[bind_some,abQ];rcases y7 (fun x:bL=>ByteArray.toList x.name==ByteArray.toList e.key) ts[i].rows with ⟨j,hj,g1,g2⟩ |⟨g1,g2⟩
  ·rw[g1,g2];have d:decide (((j:Nat):Int)>=0)=true:=(by simp);simp only[d,cond_true,aN hj,bind_some]
  ·rw[g1,g2];rfl
 ·rw[h1,h2];rfl
theorem MZ {α:Type} {c:Bool} {x y:Option α} (hx:∃ r,x=some r) (hy:∃ r,y=some r):∃ r,(bif c then x else y)=some r:=by cases c<;>assumption
theorem Oj (a b:Int):∃ r,pO a b=some r:=by
 simp only[pO];cases h:(b==0)with
 |true=>exact⟨_,rfl⟩
 |false=>
  have:(b != 0)=true:=by simp[bne,h]
  simp only[this,cond_true,cond_false];cases (Int.tmod a b != 0)<;>cases (decide (Int.tmod a b < 0)==decide (b < 0))<;>exact⟨_,rfl⟩
theorem M0 (b:Bool):∃ r,sU b=some r:=MZ ⟨_,rfl⟩ ⟨_,rfl⟩
theorem Zc {α β:Type} {x:Option α} {f:α->Option β} (hx:∃ r,x=some r) (hf:∀ r,∃ s,f r=some s):∃ s,x.bind f=some s:=by obtain⟨r,rfl⟩:=hx;exact hf r
theorem Uw (op a b:Int):∃ r,Ci op a b=some r:=by
 have q:=Oj a b;have t:=fun c=>M0 c;unfold Ci
 repeat' first
  |exact⟨_,rfl⟩
  |exact q
  |exact t _
  |apply MZ
  |(refine Zc ?_ fun r=>?_)
end Go.Proofs
