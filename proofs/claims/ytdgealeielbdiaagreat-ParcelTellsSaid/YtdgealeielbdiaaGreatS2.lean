/-
  What the printed functions of package slices and cmp come to.
-/
import Derived.Test.YtdgealeielbdiaaGreatTD2
open Go.IntKind (i64)
open Option (bind_some)
open List (map_cons mem_cons append_assoc mem_append length_take mem_map all_eq_true mem_singleton nil_append length_append getElem_mem length_cons length_map mem_iff_getElem append_nil length_drop length_nil take_succ_eq_append_getElem mem_cons_of_mem foldl_cons mem_filter any_eq_true mem_cons_self length_singleton pairwise_cons pairwise_iff_getElem filter_append length_filter_le mem_flatMap any_eq_false pairwise_append getElem_drop)
open Bool (and_eq_true)
namespace Go.Proofs
open Go.Gb Go.RowKit
abbrev ltI (a b:Int):Bool:=decide (a < b)
theorem PZ (a b:Int):cmp_Less_int a b=some (ltI a b):=by simp[cmp_Less_int,cmp_isNaN_int]
theorem oG (a b:Int):cmp_Compare_int a b=some (if a < b then -1 else if b < a then 1 else 0):=by
 by_cases h1:a < b
 ·simp[cmp_Compare_int,cmp_isNaN_int,h1]
 ·by_cases h2:b < a
  ·simp[cmp_Compare_int,cmp_isNaN_int,h1,h2]
  ·simp[cmp_Compare_int,cmp_isNaN_int,h1,h2]
theorem Vd {x:Nat} (k:Nat) (h:2 ^ k<=x):Go.Sort.bitsLen x=Go.Sort.bitsLen (x/2 ^ k)+k:=by
 have key:∀ m,Go.Sort.bitsLen x<=m+k↔Go.Sort.bitsLen (x/2 ^ k)<=m:=by
  intro m;rw[Go.Sort.bitsLen_le_iff,Go.Sort.bitsLen_le_iff,Nat.pow_add,Nat.div_lt_iff_lt_mul (Nat.two_pow_pos k)]
 have h1:=(key (Go.Sort.bitsLen (x/2 ^ k))).2 (Nat.le_refl _);have hk:k<=Go.Sort.bitsLen x:=by
  rcases Nat.lt_or_ge (Go.Sort.bitsLen x) k with hlt |hge
  ·have:=(Go.Sort.bitsLen_le_iff x (Go.Sort.bitsLen x)).1 (Nat.le_refl _);have h2:2 ^ Go.Sort.bitsLen x<=2 ^ k:=Nat.pow_le_pow_right (by omega) (by omega);omega
  ·exact hge
 have h2:=(key (Go.Sort.bitsLen x - k)).1 (by omega);omega
theorem aiX {v:Nat} (h:v < 256):IntKind.u8.wrap ((v:Nat):Int)=(v:Int):=by
 simp only[IntKind.wrap,IntKind.bits,IntKind.signed,Bool.false_and,Bool.false_eq_true,if_false];omega
set_option maxRecDepth 100000 in
theorem vg {x:Nat} (hx:x < 1152921504606846976):bits_Len (x:Int)=some ((Go.Sort.bitsLen x:Nat):Int):=by
 unfold bits_Len bits_Len64;have tab:∀ v:Fin 256,V4 (⟨#[0,1,2,2,3,3,3,3,4,4,4,4,4,4,4,4,5,5,5,5,5,5,5,5,5,5,5,5,5,5,5,5,6,6,6,6,6,6,6,6,6,6,6,6,6,6,6,6,6,6,6,6,6,6,6,6,6,6,6,6,6,6,6,6,7,7,7,7,7,7,7,7,7,7,7,7,7,7,7,7,7,7,7,7,7,7,7,7,7,7,7,7,7,7,7,7,7,7,7,7,7,7,7,7,7,7,7,7,7,7,7,7,7,7,7,7,7,7,7,7,7,7,7,7,7,7,7,7,8,8,8,8,8,8,8,8,8,8,8,8,8,8,8,8,8,8,8,8,8,8,8,8,8,8,8,8,8,8,8,8,8,8,8,8,8,8,8,8,8,8,8,8,8,8,8,8,8,8,8,8,8,8,8,8,8,8,8,8,8,8,8,8,8,8,8,8,8,8,8,8,8,8,8,8,8,8,8,8,8,8,8,8,8,8,8,8,8,8,8,8,8,8,8,8,8,8,8,8,8,8,8,8,8,8,8,8,8,8,8,8,8,8,8,8,8,8,8,8,8,8,8,8,8,8,8,8]⟩) ((v.val:Nat):Int)=some ((Go.Sort.bitsLen v.val:Nat):Int):=by decide +kernel
 have k32:(decide (0<=32)&&decide (32<=IntKind.u64.bits))=true:=rfl;have k16:(decide (0<=16)&&decide (16<=IntKind.u64.bits))=true:=rfl;have k8:(decide (0<=8)&&decide (8<=IntKind.u64.bits))=true:=rfl;have step:∀ (x k s:Nat),∃ y t:Nat,((bif (decide ((x:Int)>=((2 ^ k:Nat):Int)))then some (((x/2 ^ k:Nat):Int),((s+k:Nat):Int))else some ((x:Int),(s:Int))):Option (Int×Int))=some ((y:Int),(t:Int))∧Go.Sort.bitsLen x+s=Go.Sort.bitsLen y+t∧(y < 2 ^ k∨y=x/2 ^ k)∧t<=s+k:=by
  intro x k s;by_cases h:2 ^ k<=x
  ·have c:decide ((x:Int)>=((2 ^ k:Nat):Int))=true:=(by rw[decide_eq_true_eq];omega);refine⟨x/2 ^ k,s+k,by rw[c];rfl,?_,.inr rfl,Nat.le_refl _⟩;have:=Vd k h;omega
  ·have c:decide ((x:Int)>=((2 ^ k:Nat):Int))=false:=(by rw[decide_eq_false_iff_not];omega);exact⟨x,s,by rw[c];rfl,rfl,.inl (by omega),by omega⟩
 have sh:∀ (v k:Nat),((v:Int)/2 ^ ((k:Nat):Int).toNat)=((v/2 ^ k:Nat):Int):=by
  intro v k;rw[Int.toNat_natCast]
  push_cast
  rfl
 obtain⟨y1,t1,e1,b1,c1,d1⟩:=step x 32 0;obtain⟨y2,t2,e2,b2,c2,d2⟩:=step y1 16 t1;obtain⟨y3,t3,e3,b3,c3,d3⟩:=step y2 8 t2;have s1:((bif (decide ((x:Int)>=(4294967296:Int)))then bif ((decide (0<=32)&&decide (32<=IntKind.u64.bits)))then some (((x:Int)/2 ^ (32:Int).toNat),(32:Int))else none else some ((x:Int),(0:Int))):Option (Int×Int))=some ((y1:Int),(t1:Int)):=by
  rw[k32,<- e1];rw[show ((x:Int)/2 ^ (32:Int).toNat)=((x/2 ^ 32:Nat):Int)from sh x 32];rfl
 have s2:((bif (decide ((y1:Int)>=(65536:Int)))then bif ((decide (0<=16)&&decide (16<=IntKind.u64.bits)))then some (((y1:Int)/2 ^ (16:Int).toNat),(i64.wrap ((t1:Int)+16)))else none else some ((y1:Int),(t1:Int))):Option (Int×Int))=some ((y2:Int),(t2:Int)):=by
  rw[k16,<- e2];rw[show ((y1:Int)/2 ^ (16:Int).toNat)=((y1/2 ^ 16:Nat):Int)from sh y1 16,show i64.wrap ((t1:Int)+16)=((t1+16:Nat):Int)from LJ (j:=16) (by omega)];rfl
 have s3:((bif (decide ((y2:Int)>=(256:Int)))then bif ((decide (0<=8)&&decide (8<=IntKind.u64.bits)))then some (((y2:Int)/2 ^ (8:Int).toNat),(i64.wrap ((t2:Int)+8)))else none else some ((y2:Int),(t2:Int))):Option (Int×Int))=some ((y3:Int),(t3:Int)):=by
  rw[k8,<- e3];rw[show ((y2:Int)/2 ^ (8:Int).toNat)=((y2/2 ^ 8:Nat):Int)from sh y2 8,show i64.wrap ((t2:Int)+8)=((t2+8:Nat):Int)from LJ (j:=8) (by omega)];rfl
 have hy:y3 < 256:=by
  have q1:(2:Nat) ^ 32=4294967296:=rfl;have q2:(2:Nat) ^ 16=65536:=rfl;have q3:(2:Nat) ^ 8=256:=rfl;rw[q1]at c1;rw[q2]at c2;rw[q3]at c3;omega
 simp only[s1,bind_some,s2,s3];rw[aiX hy,show V4 _ ((y3:Nat):Int)=_ from tab ⟨y3,hy⟩];have hb:Go.Sort.bitsLen y3<=8:=(Go.Sort.bitsLen_le_iff _ _).2 (by simpa using hy);simp only[bind_some];rw[jC (by omega),LJ (by omega)];congr 2;omega
theorem ad6:WC aN:=by
 intro L h8 hL;have hb:Go.Sort.bitsLen L<=60:=(Go.Sort.bitsLen_le_iff _ _).2 (by omega);have hp:2 ^ Go.Sort.bitsLen L<=2 ^ 60:=Nat.pow_le_pow_right (by omega) hb;unfold aN;rw[jD (by omega),vg hL,bind_some];have c:(decide ((0:Int)<=((Go.Sort.bitsLen L:Nat):Int))&&decide (((Go.Sort.bitsLen L:Nat):Int)<=((IntKind.u64.bits:Nat):Int)))=true:=by
  have:((IntKind.u64.bits:Nat):Int)=64:=rfl;rw[this,and_eq_true,decide_eq_true_eq,decide_eq_true_eq];omega
 rw[c,cond_true,Int.toNat_natCast,Int.one_mul,show ((2:Int) ^ Go.Sort.bitsLen L)=((2 ^ Go.Sort.bitsLen L:Nat):Int)by push_cast;rfl,jD (by omega)]
theorem ad7:Ta aR:=by
 intro r hr;have c13:(decide (0<=13)&&decide (13<=IntKind.u64.bits))=true:=rfl;have c7:(decide (0<=7)&&decide (7<=IntKind.u64.bits))=true:=rfl;have c17:(decide (0<=17)&&decide (17<=IntKind.u64.bits))=true:=rfl;have sl:∀ (v k:Nat),IntKind.u64.wrap ((v:Int)*2 ^ ((k:Nat):Int).toNat)=((v*2 ^ k%18446744073709551616:Nat):Int):=by
  intro v k;rw[Int.toNat_natCast,show ((v:Int)*2 ^ k)=((v*2 ^ k:Nat):Int)by push_cast;rfl];simp only[IntKind.wrap,IntKind.bits,IntKind.signed,Bool.false_and,Bool.false_eq_true,if_false];omega
 have sr:∀ (v k:Nat),((v:Int)/2 ^ ((k:Nat):Int).toNat)=((v/2 ^ k:Nat):Int):=by
  intro v k;rw[Int.toNat_natCast];push_cast;rfl
 have ha:r ^^^ (r*2 ^ 13%18446744073709551616) < 18446744073709551616:=Nat.xor_lt_two_pow (n:=64) (by omega) (by omega);have hb:(r ^^^ (r*2 ^ 13%18446744073709551616)) ^^^ ((r ^^^ (r*2 ^ 13%18446744073709551616))/2 ^ 7) < 18446744073709551616:=Nat.xor_lt_two_pow (n:=64) (by omega) (by omega);unfold aR;rw[c13,c7,c17];simp only[cond_true];rw[show IntKind.u64.wrap ((r:Int)*2 ^ (13:Int).toNat)=((r*2 ^ 13%18446744073709551616:Nat):Int)from sl r 13,S9 hr (by omega)];rw[show (((r ^^^ (r*2 ^ 13%18446744073709551616):Nat):Int)/2 ^ (7:Int).toNat)=_ from sr _ 7,S9 ha (by omega)];rw[show IntKind.u64.wrap (((((r ^^^ (r*2 ^ 13%18446744073709551616)) ^^^ ((r ^^^ (r*2 ^ 13%18446744073709551616))/2 ^ 7):Nat)):Int)*2 ^ (17:Int).toNat)=_ from sl _ 17,S9 hb (by omega)];rfl
theorem Mj:Go.Sort.SWO ltI where
 irrefl x:=by simp[ltI]
 trans x y z h1 h2:=by simp only[ltI,decide_eq_true_eq]at *;omega
 ntrans x y z h1 h2:=by simp only[ltI,decide_eq_false_iff_not]at *;omega
theorem WJ:∀ {l m:List Int},l.Perm m->l.Pairwise (fun x y=>ltI y x=false)->m.Pairwise (fun x y=>ltI y x=false)->l=m
 |[],m,h,_,_=>(List.nil_perm.1 h).symm
 |x::l,[],h,_,_=>by have:=h.length_eq;simp at this
 |x::l,y::m,h,h1,h2=>by
  have e:x=y:=by
   rw[pairwise_cons]at h1 h2;have m1:x∈y::m:=h.mem_iff.1 mem_cons_self;have m2:y∈x::l:=h.mem_iff.2 mem_cons_self;rcases mem_cons.1 m1 with e |m1
   ·exact e
   ·rcases mem_cons.1 m2 with e |m2
    ·exact e.symm
    ·have a:=h1.1 y m2;have b:=h2.1 x m1;simp only[ltI,decide_eq_false_iff_not]at a b;omega
  subst e;rw[pairwise_cons]at h1 h2;rw[WJ (List.Perm.cons_inv h) h1.2 h2.2]
theorem Hl {α:Type} (lt:α->α->Bool) (x:α):∀ ys:List α,(fe lt x ys).Perm (x::ys)
 |[]=>List.Perm.refl _
 |y::ys=>by
  simp only[fe];cases lt x y with
  |true=>exact ((Hl lt x ys).cons y).trans (List.Perm.swap x y ys)
  |false=>exact List.Perm.refl _
theorem EO {α:Type} (lt:α->α->Bool) (l:List α):(fC lt l).Perm l:=by
 have gen:∀ (xs rs:List α),(xs.foldl (fun rs x=>fe lt x rs) rs).Perm (xs++rs):=by
  intro xs
  induction xs with
  |nil=>intro rs;exact List.Perm.refl _
  |cons x xs ih=>
   intro rs;refine (ih _).trans ?_;refine ((Hl lt x rs).append_left xs).trans ?_;exact List.perm_middle
 unfold fC;exact (List.reverse_perm _).trans (by simpa using gen l [])
theorem insRev_sorted {α:Type} {lt:α->α->Bool} (hS:Go.Sort.SWO lt) (x:α):∀ ys:List α,ys.Pairwise (fun a b=>lt a b=false)->(fe lt x ys).Pairwise fun a b=>lt a b=false
 |[],_=>by simp[fe]
 |y::ys,h=>by
  have h':=pairwise_cons.1 h;simp only[fe];cases hxy:lt x y with
  |true=>
   rw[cond_true,pairwise_cons];refine⟨fun z hz=>?_,insRev_sorted hS x ys h'.2⟩;rcases mem_cons.1 ((Hl lt x ys).mem_iff.1 hz)with rfl |hz
   ·cases hyx:lt y z with
    |false=>rfl
    |true=>have:=hS.trans _ _ _ hxy hyx;rw[hS.irrefl]at this;cases this
   ·exact h'.1 z hz
  |false=>
   rw[cond_false,pairwise_cons];refine⟨fun z hz=>?_,h⟩;rcases mem_cons.1 hz with rfl |hz
   ·exact hxy
   ·exact hS.ntrans _ _ _ hxy (h'.1 z hz)
theorem isort_sorted {α:Type} {lt:α->α->Bool} (hS:Go.Sort.SWO lt) (l:List α):(fC lt l).Pairwise fun x y=>lt y x=false:=by
 have gen:∀ (xs rs:List α),rs.Pairwise (fun a b=>lt a b=false)->(xs.foldl (fun rs x=>fe lt x rs) rs).Pairwise fun a b=>lt a b=false:=by
  intro xs
  induction xs with
  |nil=>intro rs h;exact h
  |cons x xs ih=>intro rs h;exact ih _ (insRev_sorted hS x rs h)
 unfold fC;rw[List.pairwise_reverse];exact gen l [] List.Pairwise.nil
theorem aeX (l:List Int):pU ltI l=fC ltI l:=
 WJ ((lH Mj l).trans (EO ltI l).symm) (xu Mj l) (isort_sorted Mj l)
theorem aam (n:Nat):∀ m,dV n m=dP cmp_Less_int (fun r=>r) aN aR n m
 | 0=>rfl
 |m+1=>by
  show jE n (dV n m)=eD cmp_Less_int (fun r=>r) aN aR n (dP cmp_Less_int (fun r=>r) aN aR n m);rw[aam n m];generalize dP cmp_Less_int (fun r=>r) aN aR n m=rc
  kernel_rfl
theorem jF {n:Nat} {l:List Int} (hl:l.length < 1099511627776) (hn:l.length < n):gW n l=some (fC ltI l):=by
 unfold gW kW;rw[jD (by omega),vg (by omega),aam];simp only[bind_some,aA,cond_true];rw[pV (lt:=ltI) Mj (f:=ltI) (q:=fun r=>r) PZ (fun _ _=>rfl) ad6 ad7 (by omega) hn hn,aeX];rfl
theorem iZ {n:Nat} {l:List Int} (hl:l.length < 1099511627776) (hn:l.length < n):fP n l=some ((),dN l):=by
 rw[<- aah];exact U7 (eq:=fun x y=>x==y) (ne:=fun x y=>x != y) (fun x y=>by simp[bne]) hl hn
theorem P5 {n:Nat} {l:List Int} {a:Int} (hl:l.length < 1099511627776) (hn:l.length < n):EB n l a=some (PV (fun x=>a==x) l):=aae hl hn
theorem zA {n:Nat} {l:List Int} {a:Int} (hl:l.length < 1099511627776) (hn:l.length < n):kE n l a=some (l.any fun x=>a==x):=by
 unfold kE;rw[P5 hl hn,bind_some,QF]
theorem rR {l:List aj} (h:l.length < 1099511627776):tN l=some l:=Pd (b:=32) (by omega) (by simp only[maxLen];omega)
theorem FN {l:List Int} (h:l.length < 1099511627776):EC l=some l:=Pd (b:=8) (by omega) (by simp only[maxLen];omega)
theorem Mk {n:Nat} {l:List (List aj)} (hf:l.flatten.length < 1099511627776) (hl:l.length < 1099511627776) (hn:l.length < n):yU n l=some l.flatten:=LG (aj.mk 0 0 0 0) (b:=32) hf (by omega) hl hn
theorem NK {n:Nat} {a b:List aj} (hl:a.length < 1099511627776) (hn:a.length < n):kK n a b=some (decide (a=b)):=by
 have e:kK n a b=QG n (fun x1 x2:aj=>!((x1.x0==(x2.x0:Int))&&((x1.y0==(x2.y0:Int))&&((x1.x1==(x2.x1:Int))&&((x1.y1==(x2.y1:Int))&&true))))) a b:=by kernel_rfl
 rw[e];refine Pe (fun x y=>?_) hl hn;obtain⟨a,b,c,d⟩:=x;obtain⟨e,f,g,h⟩:=y;simp only[aj.mk.injEq,Bool.and_true];rw[Bool.eq_iff_iff];simp
theorem Dp {n:Nat} {a b:List aD} (hl:a.length < 1099511627776) (hn:a.length < n):tL n a b=some (decide (a=b)):=by
 have e:tL n a b=QG n (fun x1 x2:aD=>!((x1.from_==(x2.from_:Int))&&((x1.to==(x2.to:Int))&&true))) a b:=by kernel_rfl
 rw[e];refine Pe (fun x y=>?_) hl hn;obtain⟨a,b⟩:=x;obtain⟨c,d⟩:=y;simp only[aD.mk.injEq,Bool.and_true];rw[Bool.eq_iff_iff];simp
abbrev ltS (a b:aD):Bool:=decide (a.from_ < b.from_)
theorem Ml:Go.Sort.SWO ltS where
 irrefl x:=by simp[ltS]
 trans x y z h1 h2:=by simp only[ltS,decide_eq_true_eq]at *;omega
 ntrans x y z h1 h2:=by simp only[ltS,decide_eq_false_iff_not]at *;omega
instance:Inhabited aD:=⟨⟨0,0⟩⟩
theorem aeY (n:Nat) (rc:List aD->Int->Int->Int->((aD×aD×Unit)->Option Int)->Option (List aD)) (φ:(aD×aD×Unit)->Option Int) (l:List aD) (a b d:Int):fJ n rc l a b d φ=eD (fun x y=>φ (x,y,())) (fun r=>decide (r < 0)) aN aR n (fun l a b d=>rc l a b d φ) l a b d:=by kernel_rfl
theorem WK (n:Nat) (φ:(aD×aD×Unit)->Option Int):∀ m l a b d,bU n m l a b d φ=dP (fun x y=>φ (x,y,())) (fun r=>decide (r < 0)) aN aR n m l a b d
 | 0,l,a,b,d=>rfl
 |m+1,l,a,b,d=>by
  have e:(fun l a b d=>bU n m l a b d φ)=dP (fun x y=>φ (x,y,())) (fun r=>decide (r < 0)) aN aR n m:=by
   funext l a b d;exact WK n φ m l a b d
  show fJ n (bU n m) l a b d φ=eD (fun x y=>φ (x,y,())) (fun r=>decide (r < 0)) aN aR n (dP (fun x y=>φ (x,y,())) (fun r=>decide (r < 0)) aN aR n m) l a b d;rw[<- e];exact aeY n (bU n m) φ l a b d
theorem Je {n:Nat} {l:List aD} {φ:(aD×aD×Unit)->Option Int} (f:aD->aD->Int) (hφ:∀ x y,φ (x,y,())=some (f x y)) (hf:∀ x y,decide (f x y < 0)=ltS x y) (hl:l.length < 1099511627776) (hn:l.length < n):l8 n l φ=some (pU ltS l):=by
 unfold l8 jZ;rw[jD (by omega),vg (by omega)];simp only[bind_some,aA,cond_true,WK];rw[pV (lt:=ltS) Ml (f:=f) (q:=fun r=>decide (r < 0)) hφ hf ad6 ad7 (by omega) hn hn];rfl
def mrg (out:List aD) (s:aD):List aD:=
 match out.getLast? with
 |some q=>bif decide (s.from_<=q.to)then out.dropLast++[⟨q.from_,max q.to s.to⟩]else out++[s]
 |none=>[s]
theorem EP (out:List aD) (s:aD):(mrg out s).length<=out.length+1:=by
 unfold mrg;cases out.getLast? with
 |none=>simp
 |some q=>simp only;cases decide (s.from_<=q.to)<;>simp<;>omega
theorem acz (o:List aD) (q s:aD):mrg (o++[q]) s=bif decide (s.from_<=q.to)then o++[⟨q.from_,max q.to s.to⟩]else o++[q]++[s]:=by simp[mrg]
abbrev OkS (s:aD):Prop:=s.from_ < s.to
def inS (l:List aD) (y:Int):Bool:=l.any fun s=>decide (s.from_<=y)&&decide (y < s.to)
def Can (l:List aD):Prop:=l.Pairwise (fun a b=>a.to < b.from_)∧∀ s∈l,OkS s
theorem qo (l:List aD) (y:Int):inS l y=true↔∃ s∈l,s.from_<=y∧y < s.to:=by simp[inS]
theorem lQ (l m:List aD) (y:Int):inS (l++m) y=(inS l y || inS m y):=by simp[inS]
theorem tZ (y:Int):inS [] y=false:=rfl
theorem ja (s:aD) (l:List aD) (y:Int):inS (s::l) y=((decide (s.from_<=y)&&decide (y < s.to)) || inS l y):=by simp[inS]
theorem Tm {l m:List aD} (h:l.Perm m) (y:Int):inS l y=inS m y:=by
 rw[Bool.eq_iff_iff,qo,qo];exact⟨fun ⟨s,hs,h1⟩=>⟨s,h.mem_iff.1 hs,h1⟩,fun⟨s,hs,h1⟩=>⟨s,h.mem_iff.2 hs,h1⟩⟩
theorem Mq:Can []:=⟨List.Pairwise.nil,by simp⟩
theorem agV {out:List aD} {s:aD} (hc:Can out) (hs:OkS s) (hb:∀ o∈out,o.from_<=s.from_):
 Can (mrg out s)∧(∀ o∈mrg out s,o.from_<=s.from_)∧∀ y,inS (mrg out s) y=(inS out y || inS [s] y):=by
 rcases List.eq_nil_or_concat out with rfl |⟨o,q,rfl⟩
 ·refine⟨⟨by simp[mrg],by simp[mrg];exact hs⟩,by simp[mrg],fun y=>by simp[mrg,inS]⟩
 ·rw[List.concat_eq_append]at*;obtain⟨h1,h2⟩:=hc;rw[pairwise_append]at h1;obtain⟨p1,_,p3⟩:=h1;have hq:OkS q:=h2 q (by simp);have hqs:q.from_<=s.from_:=hb q (by simp);rw[acz];by_cases hj:s.from_<=q.to
  ·simp only[hj,decide_true,cond_true];refine⟨⟨?_,?_⟩,?_,?_⟩
   ·rw[pairwise_append];refine⟨p1,by simp,fun a ha b hb'=>?_⟩;rw[mem_singleton]at hb';subst hb';exact p3 a ha q (by simp)
   ·intro a ha;rcases mem_append.1 ha with ha |ha
    ·exact h2 a (by simp[ha])
    ·rw[mem_singleton]at ha;subst ha;show q.from_ < max q.to s.to;have:q.from_ < q.to:=hq;omega
   ·intro a ha;rcases mem_append.1 ha with ha |ha
    ·exact hb a (by simp[ha])
    ·rw[mem_singleton]at ha;subst ha;exact hqs
   ·intro y;rw[lQ,lQ,Bool.or_assoc];congr 1;simp only[ja,tZ,Bool.or_false];rw[Bool.eq_iff_iff];simp only[and_eq_true,Bool.or_eq_true,decide_eq_true_eq];have:q.from_ < q.to:=hq;have:s.from_ < s.to:=hs;omega
  ·simp only[hj,decide_false,cond_false];refine⟨⟨?_,?_⟩,?_,?_⟩
   ·rw[pairwise_append];refine⟨?_,by simp,fun a ha b hb'=>?_⟩
    ·rw[pairwise_append];exact⟨p1,by simp,p3⟩
    ·rw[mem_singleton]at hb';subst hb';rcases mem_append.1 ha with ha |ha
     ·have:=p3 a ha q (by simp);have:q.from_ < q.to:=hq;omega
     ·rw[mem_singleton]at ha;subst ha;omega
   ·intro a ha;rcases mem_append.1 ha with ha |ha
    ·exact h2 a ha
    ·rw[mem_singleton]at ha;subst ha;exact hs
   ·intro a ha;rcases mem_append.1 ha with ha |ha
    ·exact hb a ha
    ·rw[mem_singleton]at ha;subst ha;exact Int.le_refl _
   ·intro y;rw[lQ]
theorem IV:∀ (l out:List aD),Can out->(∀ s∈l,OkS s)->l.Pairwise (fun x y=>x.from_<=y.from_)->(∀ o∈out,∀ s∈l,o.from_<=s.from_)->Can (l.foldl mrg out)∧∀ y,inS (l.foldl mrg out) y=(inS out y || inS l y)
 |[],out,hc,_,_,_=>⟨hc,fun y=>by simp[tZ]⟩
 |s::l,out,hc,hv,hp,hb=>by
  rw[pairwise_cons]at hp;obtain⟨m1,m2,m3⟩:=agV hc (hv s (by simp)) (fun o ho=>hb o ho s (by simp));obtain⟨f1,f2⟩:=IV l (mrg out s) m1 (fun t ht=>hv t (by simp[ht])) hp.2 (fun o ho t ht=>Int.le_trans (m2 o ho) (hp.1 t ht));refine⟨f1,fun y=>?_⟩;rw[foldl_cons,f2,m3,Bool.or_assoc,<- lQ];rfl
theorem Mr {a:aD} {l:List aD} (h:Can (a::l)):Can l:=⟨(pairwise_cons.1 h.1).2,fun s hs=>h.2 s (by simp[hs])⟩
theorem IW {a:aD} {l:List aD} (h:Can (a::l)) {y:Int} (hy:inS l y=true):a.to < y:=by
 obtain⟨s,hs,h1,_⟩:=(qo _ _).1 hy;have:=(pairwise_cons.1 h.1).1 s hs;omega
theorem WL {a:aD} {l:List aD} (h:Can (a::l)) {y:Int} (hy:inS (a::l) y=true):a.from_<=y:=by
 rw[ja,Bool.or_eq_true]at hy;rcases hy with hy |hy
 ·simp only[and_eq_true,decide_eq_true_eq]at hy;exact hy.1
 ·have:=IW h hy;have:a.from_ < a.to:=h.2 a (by simp);omega
theorem rU:∀ {l m:List aD},Can l->Can m->(∀ y,inS l y=inS m y)->l=m
 |[],[],_,_,_=>rfl
 |[],b::m,_,hm,h=>by
  have:=h b.from_;have hb:b.from_ < b.to:=hm.2 b (by simp);rw[tZ,ja]at this;simp[hb]at this
 |a::l,[],hl,_,h=>by
  have:=h a.from_;have ha:a.from_ < a.to:=hl.2 a (by simp);rw[tZ,ja]at this;simp[ha]at this
 |a::l,b::m,hl,hm,h=>by
  have ha:a.from_ < a.to:=hl.2 a (by simp);have hb:b.from_ < b.to:=hm.2 b (by simp);have ina:inS (a::l) a.from_=true:=by rw[ja];simp[ha]
  have inb':inS (b::m) b.from_=true:=by rw[ja];simp[hb]
  have e1:a.from_=b.from_:=by
   have h1:=WL hm (by rw[<- h];exact ina);have h2:=WL hl (by rw[h];exact inb');omega
  have nl:∀ (c:aD) (k:List aD),Can (c::k)->inS (c::k) c.to=false:=by
   intro c k hk;cases hc:inS (c::k) c.to with
   |false=>rfl
   |true=>
    rw[ja,Bool.or_eq_true]at hc;rcases hc with hc |hc
    ·simp at hc
    ·have:=IW hk hc;omega
  have e2:a.to=b.to:=by
   rcases Int.lt_trichotomy a.to b.to with hlt |he |hlt
   ·have h1:=nl a l hl;rw[h,ja]at h1;simp only[Bool.or_eq_false_iff,Bool.and_eq_false_iff,decide_eq_false_iff_not]at h1;omega
   ·exact he
   ·have h1:=nl b m hm;rw[<- h,ja]at h1;simp only[Bool.or_eq_false_iff,Bool.and_eq_false_iff,decide_eq_false_iff_not]at h1;omega
  have e:a=b:=by cases a;cases b;simp only at e1 e2;rw[e1,e2]
  subst e;rw[rU (Mr hl) (Mr hm) fun y=>?_];have hy:=h y;rw[ja,ja]at hy;cases h1:inS l y with
  |true=>
   have:=IW hl h1;have z:(decide (a.from_<=y)&&decide (y < a.to))=false:=(by rw[Bool.and_eq_false_iff,decide_eq_false_iff_not,decide_eq_false_iff_not];omega);rw[z,h1,Bool.false_or,Bool.false_or]at hy;rw[<- hy]
  |false=>
   cases h2:inS m y with
   |false=>rfl
   |true=>
    have:=IW hm h2;have z:(decide (a.from_<=y)&&decide (y < a.to))=false:=(by rw[Bool.and_eq_false_iff,decide_eq_false_iff_not,decide_eq_false_iff_not];omega);rw[z,h1,h2]at hy;simp at hy
def Ye (l:List aD):List aD:=(fC ltS l).foldl mrg []
theorem agW {l:List aD} (h:l.Pairwise fun x y=>ltS y x=false):l.Pairwise fun x y=>x.from_<=y.from_:=
 h.imp fun {x y} hxy=>by simp only[ltS,decide_eq_false_iff_not]at hxy;omega
theorem NN {l:List aD} (h:∀ s∈l,OkS s):Can (Ye l)∧∀ y,inS (Ye l) y=inS l y:=by
 have hp:=EO ltS l;obtain⟨h1,h2⟩:=IV (fC ltS l) [] Mq (fun s hs=>h s (hp.mem_iff.1 hs)) (agW (isort_sorted Ml l)) (by simp);exact⟨h1,fun y=>by rw[Ye,h2,tZ,Bool.false_or,Tm hp]⟩
theorem aeZ {l:List aD} (h:∀ s∈l,OkS s):(pU ltS l).foldl mrg []=Ye l:=by
 have hp:=lH Ml l;obtain⟨h1,h2⟩:=IV (pU ltS l) [] Mq (fun s hs=>h s (hp.mem_iff.1 hs)) (agW (xu Ml l)) (by simp);obtain⟨h3,h4⟩:=NN h;exact rU h1 h3 fun y=>by rw[h2,tZ,Bool.false_or,Tm hp,h4]
theorem aan (l:List aD):(Ye l).length<=l.length:=by
 have:∀ (ys out:List aD),(ys.foldl mrg out).length<=out.length+ys.length:=by
  intro ys
  induction ys with
  |nil=>intro out;simp
  |cons y ys ih=>
   intro out;simp only[foldl_cons,length_cons];have:=ih (mrg out y);have:=EP out y;omega
 have h:=this (fC ltS l) [];rw[bD]at h;simpa[Ye]using h
abbrev OkR (r:aj):Bool:=decide (0<=r.x0)&&(decide (r.x0 < r.x1)&&(decide (r.x1<=1048576)&&(decide (0<=r.y0)&&(decide (r.y0 < r.y1)&&decide (r.y1<=1048576)))))
theorem Ho (a b:Bool):(bif a then some b else some false)=some (a&&b):=by cases a<;>rfl
theorem aiY (a b:Bool):(bif a then some true else some b)=some (a || b):=by cases a<;>rfl
theorem rV (r:aj):tK r=some (OkR r):=by simp only[tK,Ho]
def bE (l:List aj) (x:Int):List aD:=(l.filter fun r=>decide (r.x0<=x)&&decide (x < r.x1)).map fun r=>⟨r.y0,r.y1⟩
def aO (l:List aj) (x:Int):List aD:=Ye (bE l x)
theorem qp (l:List aj) (x:Int):(bE l x).length<=l.length:=by simp only[bE,length_map];exact length_filter_le _ _
theorem jG (l:List aj) (x:Int):(aO l x).length<=l.length:=
 Nat.le_trans (aan _) (qp l x)
theorem ajn {r:aj} (h:OkR r=true):r.x0 < r.x1:=by simp only[OkR,and_eq_true,decide_eq_true_eq]at h;omega
theorem aiz {r:aj} (h:OkR r=true):r.y0 < r.y1:=by simp only[OkR,and_eq_true,decide_eq_true_eq]at h;omega
theorem Ki {l:List aj} (h:∀ r∈l,OkR r=true) (x:Int):∀ s∈bE l x,OkS s:=by
 intro s hs;simp only[bE,mem_map,mem_filter]at hs;obtain⟨r,⟨hr,_⟩,rfl⟩:=hs;exact aiz (h r hr)
theorem NP {l:List aj} {x:Int} (hl:l.length < 1099511627776) {n:Nat} (hn:l.length < n):iter (pX l x) n ((0:Int),([]:List aD))=some (bE l x):=by
 have:=dO (l:=l) (step:=pX l x) (fun i (s:List aD)=>((i:Int),s)) (fun r s=>bif decide (r.x0<=x)&&decide (x < r.x1)then s++[⟨r.y0,r.y1⟩]else s) (fun s=>s) (fun i s=>s.length<=i)
  (fun i hi s hs=>?_) (fun s hs=>by simp[pX]) n hn [] (Nat.le_refl _)
 ·rw[show ((0:Nat):Int)=0 from rfl]at this;rw[this];congr 1;have gen:∀ (ys:List aj) (s:List aD),ys.foldl (fun s r=>bif decide (r.x0<=x)&&decide (x < r.x1)then s++[⟨r.y0,r.y1⟩]else s) s=s++bE ys x:=by
   intro ys
   induction ys with
   |nil=>intro s;simp[bE]
   |cons y ys ih=>
    intro s;simp only[foldl_cons,ih];cases h:(decide (y.x0<=x)&&decide (x < y.x1))with
    |true=>simp[bE,h]
    |false=>simp[bE,h]
  simpa using gen l []
 ·have hi':decide (((i:Nat):Int) < (l.length:Int))=true:=by simpa using hi
  have ap:aX s.length s.length (sub ([(aD.mk l[i].y0 l[i].y1)]:List aD) 0 1).length 1 16=true:=aU (n:=1) (by omega) (by simp only[maxLen];omega);simp only[pX,hi',cond_true,aQ hi,bind_some,Ho];cases h:(decide (l[i].x0<=x)&&decide (x < l[i].x1))with
  |true=>
   simp only[cond_true,ap,bG,aA,bind_some];refine⟨?_,by simp;omega⟩;rw[aC (by omega)];rfl
  |false=>
   simp only[cond_false,aA,cond_true,bind_some];exact⟨by rw[aC (by omega)],by omega⟩
theorem NQ {n:Nat} (w1 r2:List aD) (hw:w1.length=r2.length) (hl:r2.length < 1099511627776) (hn:r2.length < n):iter (pY w1 r2) n ((0:Int),([]:List aD))=some (r2.foldl mrg []):=by
 have:=dO (l:=r2) (step:=pY w1 r2) (fun i (s:List aD)=>((i:Int),s)) (fun r s=>mrg s r) (fun s=>s) (fun i s=>s.length<=i)
  (fun i hi s hs=>?_) (fun s hs=>by simp[pY,hw]) n hn [] (Nat.le_refl _)
 ·rw[show ((0:Nat):Int)=0 from rfl]at this;exact this
 ·refine⟨?_,by have:=EP s r2[i];omega⟩;have hi':decide (((i:Nat):Int) < ((w1.length:Nat):Int))=true:=by simp;omega
  have ib:inb (i:Int) w1.length=true:=aZ (by omega);have ap:aX s.length s.length (sub ([r2[i]]:List aD) 0 1).length 1 16=true:=aU (n:=1) (by omega) (by simp only[maxLen];omega);simp only[pY,hi',cond_true,ib,dD hi,bind_some];rcases List.eq_nil_or_concat s with rfl |⟨s0,q,hsq⟩
  ·have d0:decide (((([]:List aD).length:Nat):Int)>0)=false:=(by simp);simp only[d0,cond_false,bind_some,ap,cond_true,bG,aA];rw[aC (by omega)];rfl
  ·rw[List.concat_eq_append]at hsq;subst hsq;have d0:decide (((((s0++[q]).length:Nat):Int))>0)=true:=(by simp<;>omega);have lenq:(s0++[q]).length=s0.length+1:=(by simp);have wp:i64.wrap ((((s0++[q]).length:Nat):Int) - 1)=((s0.length:Nat):Int):=(by rw[dJ (by simp) (by omega),lenq];rfl);have ib2:inb ((s0.length:Nat):Int) (s0++[q]).length=true:=aZ (by omega);have g:at? (s0++[q]) (((0:Nat):Int)+((s0.length:Nat):Int))=some q:=(by rw[dR];simp);have z:(((0:Nat):Int)+((s0.length:Nat):Int)).toNat=s0.length:=(by simp);have st:(s0++[q]).set s0.length (aD.mk q.from_ (max q.to r2[i].to))=s0++[⟨q.from_,max q.to r2[i].to⟩]:=(by simp);have m:mrg (s0++[q]) r2[i]=bif decide (r2[i].from_<=q.to)then s0++[⟨q.from_,max q.to r2[i].to⟩]else s0++[q]++[r2[i]]:=(by simp[mrg]);simp only[d0,cond_true,wp,ib2,g,bind_some,m,z,st];cases decide (r2[i].from_<=q.to)with
   |true=>
    have e:eqL (s0++[q]).length (s0++[(⟨q.from_,max q.to r2[i].to⟩:aD)]).length=true:=(by simp);simp only[cond_true,e,bind_some,aA];rw[aC (by omega)]
   |false=>
    simp only[cond_false,ap,cond_true,bG,aA,bind_some];rw[aC (by omega)];rfl
theorem Yf {n:Nat} {l:List aj} {x:Int} (hv:∀ r∈l,OkR r=true) (hl:l.length < 1099511627776) (hn:l.length < n):Iy n l x=some (aO l x):=by
 have h1:=qp l x;have h2:(pU ltS (bE l x)).length=(bE l x).length:=xw Ml _;unfold Iy;simp only[length_nil,aA,cond_true,NP (x:=x) (l:=l) (by omega) (n:=n) (by omega),bind_some];rw[Je (fun a b=>if a.from_ < b.from_ then -1 else if b.from_ < a.from_ then 1 else 0) (fun a b=>by show xD a b=_;unfold xD;rw[oG];rfl) (fun a b=>by
  by_cases h1:a.from_ < b.from_
  ·simp[h1]
  ·by_cases h2:b.from_ < a.from_<;>simp[h1,h2]) (by omega) (by omega)]
 simp only[bind_some];rw[NQ _ _ h2.symm (by omega) (by omega)];simp only[bind_some,aV,aA,cond_true];rw[aeZ (Ki hv x)];rfl
def aJ (l:List aj):List Int:=kV (l.flatMap fun r=>[r.x0,r.x1])
def dQ {α:Type} (f:Int->Int->α):List Int->List α
 |a::b::l=>f a b::dQ f (b::l)
 |_=>[]
def aG (l:List aj):List aM:=dQ (fun a b=>⟨a,b,aO l a⟩) (aJ l)
theorem j5 {α:Type} (f:Int->Int->α):∀ (l:List Int),(dQ f l).length=l.length - 1∧∀ i (h:i+1 < l.length) (h':i < (dQ f l).length),(dQ f l)[i]=f l[i] l[i+1]
 |[]=>⟨rfl,fun i h=>by simp at h⟩
 |[a]=>⟨rfl,fun i h=>by simp at h⟩
 |a::b::l=>by
  obtain⟨h1,h2⟩:=j5 f (b::l);refine⟨by simp only[dQ,length_cons,h1];simp,fun i h h'=>?_⟩;cases i with
  |zero=>rfl
  |succ i=>
   simp only[dQ,List.getElem_cons_succ];exact h2 i (by simpa using h) _
theorem eY (l:List aj):(l.flatMap fun r=>[r.x0,r.x1]).length=2*l.length:=by
 induction l with
 |nil=>rfl
 |cons x l ih=>simp only[List.flatMap_cons,length_append,ih,length_cons,length_nil];omega
theorem kF (l:List Int):(dN l).length<=l.length:=by
 match l with
 |[]=>simp[dN]
 |[x]=>simp[dN]
 |x::y::l=>
  have:=kF (y::l);simp only[dN];cases x==y<;>simp at* <;>omega
theorem kQ (l:List aj):(aJ l).length<=2*l.length:=by
 have h:=kF (fC (fun a b=>decide (a < b)) (l.flatMap fun r=>[r.x0,r.x1]));rw[bD,eY]at h;exact h
theorem NR {n:Nat} {l:List aj} (hl:l.length < 10995116277) (hn:l.length < n):iter (p8 l) n ((0:Int),([]:List Int))=some (l.flatMap fun r=>[r.x0,r.x1]):=by
 have:=dO (l:=l) (step:=p8 l) (fun i (s:List Int)=>((i:Int),s)) (fun r s=>s++[r.x0,r.x1]) (fun s=>s) (fun i s=>s.length<=2*i)
  (fun i hi s hs=>?_) (fun s hs=>by simp[p8]) n hn [] (Nat.le_refl _)
 ·rw[show ((0:Nat):Int)=0 from rfl]at this;rw[this];have gen:∀ (ys:List aj) (s:List Int),ys.foldl (fun s r=>s++[r.x0,r.x1]) s=s++ys.flatMap fun r=>[r.x0,r.x1]:=by
   intro ys
   induction ys with
   |nil=>intro s;simp
   |cons y ys ih=>intro s;simp[ih]
  congr 1;simpa using gen l []
 ·have hi':decide (((i:Nat):Int) < ((l.length:Nat):Int))=true:=by simpa using hi
  have ap:aX s.length s.length (sub ([l[i].x0,l[i].x1]:List Int) 0 2).length 2 8=true:=aU (n:=2) (by omega) (by simp only[maxLen];omega);simp only[p8,hi',cond_true,aZ hi,dD hi,bind_some,ap,bG,aA];refine⟨?_,by simp;omega⟩;rw[aC (by omega)];rfl
theorem qw {n:Nat} {ls:List (List aj)} (hv:∀ r∈ls.flatten,OkR r=true) (hl:ls.flatten.length < 10995116277) (hls:ls.length < 1099511627776) (hn:2*ls.flatten.length < n) (hn2:ls.length < n):iJ n ls=some (aG ls.flatten):=by
 unfold iJ;rw[Mk (by omega) hls hn2];generalize ls.flatten=l at*;have he:=kQ l;simp only[bind_some,length_nil,aA,cond_true,NR (l:=l) (n:=n) (by omega) (by omega)];rw[jF (by rw[eY];omega) (by rw[eY];omega)];simp only[bind_some,bD,aA,cond_true];rw[iZ (by rw[bD,eY];omega) (by rw[bD,eY];omega)];simp only[bind_some];have hE:dN (fC ltI (l.flatMap fun r=>[r.x0,r.x1]))=aJ l:=rfl;rw[hE];obtain⟨p1,p2⟩:=j5 (fun a b=>(⟨a,b,aO l a⟩:aM)) (aJ l);have key:iter (p9 n l ((),aJ l)) n ((1:Int),([]:List aM))=some (aG l):=by
  have:=dm (step:=p9 n l ((),aJ l)) (fun i=>(((i+1:Nat):Int),(aG l).take i)) (aG l).length (aG l) (fun i hi=>?_) ?_ n (by unfold aG;omega)
  ·simpa using this
  ·have hi2:i+1 < (aJ l).length:=(by unfold aG at hi;omega);have d:decide (((i+1:Nat):Int) < (((aJ l).length:Nat):Int))=true:=(by simp;omega);have wp:i64.wrap (((i+1:Nat):Int) - 1)=((i:Nat):Int):=(by rw[dJ (by omega) (by omega)];rfl);have ap:aX ((aG l).take i).length ((aG l).take i).length (sub ([(aM.mk ((aJ l)[i]'(by omega)) (aJ l)[i+1] (aO l ((aJ l)[i]'(by omega))))]:List aM) 0 1).length 1 40=true:=by
    refine aU (n:=1) ?_ ?_
    ·rw[length_take];unfold aG;omega
    ·rw[length_take];unfold aG;simp only[maxLen];omega
   have tk:(aG l).take (i+1)=(aG l).take i++[⟨(aJ l)[i]'(by omega),(aJ l)[i+1],aO l ((aJ l)[i]'(by omega))⟩]:=by
    rw[take_succ_eq_append_getElem hi];congr 2;exact p2 i hi2 hi
   simp only[p9,d,cond_true,wp,aZ (show i < (aJ l).length by omega),dD (show i < (aJ l).length by omega),bind_some,aZ hi2,dD hi2,aV,aA,Yf (l:=l) (n:=n) hv (by omega) (by omega),ap,bG];rw[aC (by omega),tk];rfl
  ·have d:decide ((((aG l).length+1:Nat):Int) < (((aJ l).length:Nat):Int))=false:=(by unfold aG;simp;omega);simp only[p9,d,cond_false,List.take_length,aA,cond_true]
 rw[key];simp only[bind_some,aV,aA,cond_true]
def aF (x0 x1:Int) (c:List aD):List aj:=c.map fun q=>⟨x0,q.from_,x1,q.to⟩
def qx (x0 x1:Int) (c:List aD):List aM->List aj
 |[]=>aF x0 x1 c
 |s::l=>if s.column=c then qx x0 s.x1 c l else aF x0 x1 c++qx s.x0 s.x1 s.column l
def aT:List aM->List aj
 |[]=>[]
 |s::l=>qx s.x0 s.x1 s.column l
theorem WM (x0:Int) (c:List aD):∀ (l:List aM) (x1:Int) (k:Nat) (hk:k<=l.length),(∀ j (hj:j < k),(l[j]'(by omega)).column=c)->(∀ h:k < l.length,l[k].column≠c)->
 qx x0 x1 c l=aF x0 (if h:0 < k then (l[k - 1]'(by omega)).x1 else x1) c++aT (l.drop k)
 |l,x1,0,_,_,h2=>by
  cases l with
  |nil=>simp[qx,aT]
  |cons s l=>
   have:=h2 (by simp);simp only[List.getElem_cons_zero]at this;simp[qx,aT,this]
 |[],x1,k+1,hk,_,_=>by simp at hk
 |s::l,x1,k+1,hk,h1,h2=>by
  have e0:=h1 0 (by omega);simp only[List.getElem_cons_zero]at e0;simp only[qx,e0,if_true];rw[WM x0 c l s.x1 k (by simpa using hk) (fun j hj=>by have:=h1 (j+1) (by omega);simpa using this) (fun h=>by have:=h2 (by simpa using h);simpa using this)];simp only[List.drop_succ_cons];congr 2;by_cases hk0:0 < k
  ·simp only[hk0,dite_true,Nat.zero_lt_succ,Nat.add_sub_cancel];obtain⟨m,rfl⟩:∃ m,k=m+1:=⟨k - 1,by omega⟩;simp
  ·have:k=0:=(by omega);subst this;simp
theorem Ve (l:List aM) (b:Nat) (h:∀ s∈l,s.column.length<=b):(aT l).length<=l.length*b:=by
 have go:∀ (l:List aM) (x0 x1:Int) (c:List aD),c.length<=b->(∀ s∈l,s.column.length<=b)->(qx x0 x1 c l).length<=(l.length+1)*b:=by
  intro l
  induction l with
  |nil=>intro x0 x1 c hc _;simp only[qx,aF,length_map,length_nil];omega
  |cons s l ih=>
   intro x0 x1 c hc hl;simp only[qx];split
   ·have:=ih x0 s.x1 c hc (fun t ht=>hl t (mem_cons_of_mem _ ht));simp only[length_cons,Nat.add_mul]at*;omega
   ·have:=ih s.x0 s.x1 s.column (hl s (by simp)) (fun t ht=>hl t (mem_cons_of_mem _ ht));simp only[length_append,aF,length_map,length_cons,Nat.add_mul]at*;omega
 cases l with
 |nil=>simp[aT]
 |cons s l=>
  simp only[aT];exact go l _ _ _ (h s (by simp)) (fun t ht=>h t (mem_cons_of_mem _ ht))
theorem P6 {n:Nat} {l:List aM} {i k:Nat} (hi:i < l.length) (hk1:0 < k) (hk:k<=l.length) (hl:l.length < 10995116277) (x3:aM) (out:List aj) (ho:out.length < 1099511627776) (hc:x3.column.length < 1099511627776) (hn:x3.column.length < n):
 iter (uI l (i:Int) (k:Int) x3) n ((0:Int),out)=some (out++aF l[i].x0 (l[k - 1]'(by omega)).x1 x3.column):=by
 have:=dO (l:=x3.column) (step:=uI l (i:Int) (k:Int) x3) (fun j (s:List aj)=>((j:Int),s)) (fun q s=>s++[⟨l[i].x0,q.from_,(l[k - 1]'(by omega)).x1,q.to⟩]) (fun s=>s) (fun j s=>s.length<=out.length+j)
  (fun j hj s hs=>?_) (fun s hs=>by simp[uI]) n hn out (Nat.le_refl _)
 ·rw[show ((0:Nat):Int)=0 from rfl]at this;rw[this];have gen:∀ (ys:List aD) (s:List aj),ys.foldl (fun s q=>s++[⟨l[i].x0,q.from_,(l[k - 1]'(by omega)).x1,q.to⟩]) s=s++aF l[i].x0 (l[k - 1]'(by omega)).x1 ys:=by
   intro ys
   induction ys with
   |nil=>intro s;simp[aF]
   |cons y ys ih=>intro s;simp only[foldl_cons,ih];simp[aF]
  rw[gen]
 ·have hj':decide (((j:Nat):Int) < (x3.column.length:Int))=true:=by simpa using hj
  have wp:i64.wrap ((k:Int) - 1)=((k - 1:Nat):Int):=dJ hk1 (by omega);have ap:aX s.length s.length (sub ([(aj.mk l[i].x0 (x3.column[j]).from_ (l[k - 1]'(by omega)).x1 (x3.column[j]).to)]:List aj) 0 1).length 1 32=true:=aU (n:=1) (by omega) (by simp only[maxLen];omega);simp only[uI,hj',cond_true,aQ hj,aQ hi,wp,aQ (show k - 1 < l.length by omega),bind_some,ap,bG,aA];refine⟨?_,by simp;omega⟩;rw[aC (by omega)];rfl
theorem Hq {n:Nat} {l:List aM} {b:Nat} (hb:b<=100000) (hl:l.length<=100000) (hc:∀ s∈l,s.column.length<=b) (hn:b < n) (hn2:l.length < n):yY n l=some (aT l):=by
 unfold yY;simp only[length_nil,aA,cond_true];have main:∀ (m i:Nat) (out:List aj) (k:Nat),i+m=l.length->m < k->out.length<=i*b->iter (uJ n l) k ((i:Int),out)=some (out++aT (l.drop i)):=by
  intro m
  induction m using Nat.strongRecOn with
  |ind m ih=>
   intro i out k him hk ho;obtain⟨k,rfl⟩:∃ j,k=j+1:=⟨k - 1,by omega⟩;by_cases hm:m=0
   ·subst hm;have:i=l.length:=(by omega);subst this;refine aS ?_;simp[uJ,aT]
   ·have hi:i < l.length:=(by omega);have di:decide (((i:Nat):Int) < (l.length:Int))=true:=(by simpa using hi);obtain⟨q,hq1,hq2,hq3,hq4⟩:∃ q,i < q∧q<=l.length∧(∀ j,i < j->j < q->∀ h:j < l.length,l[j].column=l[i].column)∧(∀ h:q < l.length,l[q].column≠l[i].column):=by
     rcases JH (fun j=>if h:j < l.length then decide (l[j].column≠l[i].column)else false) (i+1) l.length with ⟨q,h1,h2,h3,h4⟩ |h
     ·simp only[h2,dite_true,decide_eq_true_eq]at h3;refine⟨q,by omega,by omega,fun j hj1 hj2 hj=>?_,fun _=>h3⟩;have:=h4 j (by omega) hj2;simp only[hj,dite_true,decide_eq_false_iff_not,ne_eq,Decidable.not_not]at this;exact this
     ·refine⟨l.length,hi,Nat.le_refl _,fun j hj1 hj2 hj=>?_,fun h=>by omega⟩;have:=h j (by omega) hj;simp only[hj,dite_true,decide_eq_false_iff_not,ne_eq,Decidable.not_not]at this;exact this
    have cl:∀ j (hj:j < l.length),l[j].column.length<=b:=fun j hj=>hc _ (getElem_mem hj);have r2:iter (oP n l (i:Int)) n (i64.wrap ((i:Int)+1))=some (q:Int):=by
     rw[aC (by omega)];have:=dm (step:=oP n l (i:Int)) (fun j=>((i+1+j:Nat):Int)) (q - (i+1)) (q:Int) (fun j hj=>?_) ?_ n (by omega)
     ·simpa using this
     ·have hjl:i+1+j < l.length:=(by omega);have dj:decide (((i+1+j:Nat):Int) < (l.length:Int))=true:=(by simp;omega);have hcc:=cl (i+1+j) hjl;simp only[oP,dj,cond_true,aQ hjl,aQ hi,bind_some];rw[Dp (by omega) (by omega),hq3 (i+1+j) (by omega) (by omega) hjl];simp only[decide_true,bind_some,cond_true];rw[aC (by omega)];rfl
     ·rw[show i+1+(q - (i+1))=q by omega];by_cases hql:q < l.length
      ·have dj:decide (((q:Nat):Int) < (l.length:Int))=true:=(by simpa using hql);have hcc:=cl q hql;simp only[oP,dj,cond_true,aQ hql,aQ hi,bind_some];rw[Dp (by omega) (by omega)];simp[hq4 hql]
      ·have dj:decide (((q:Nat):Int) < (l.length:Int))=false:=(by simp;omega);simp only[oP,dj,cond_false,bind_some]
    have ob:i*b<=100000*100000:=Nat.mul_le_mul (by omega) hb;have hci:=cl i hi;have r3:=P6 (n:=n) hi (show 0 < q by omega) hq2 (by omega) l[i] out (by omega) (by omega) (by omega);have step:uJ n l ((i:Int),out)=some (.inl ((q:Int),out++aF l[i].x0 (l[q - 1]'(by omega)).x1 l[i].column)):=(by simp only[uJ,di,cond_true,r2,aQ hi,bind_some,aA,r3]);rw[bf step,ih (l.length - q) (by omega) q _ k (by omega) (by omega) (by
     rw[length_append,aF,length_map];have:(i+1)*b<=q*b:=Nat.mul_le_mul_right _ (by omega);rw[Nat.add_mul]at this;omega)]
    rw[append_assoc];congr 2
    conv=>rhs;rw[List.drop_eq_getElem_cons hi]
    simp only[aT];rw[WM l[i].x0 l[i].column (l.drop (i+1)) l[i].x1 (q - (i+1)) (by rw[length_drop];omega) (fun j hj=>by
     rw[getElem_drop];exact hq3 _ (by omega) (by omega) (by omega)) (fun h=>by
     rw[length_drop]at h;rw[getElem_drop];have:=hq4 (by omega);have hqq:i+1+(q - (i+1))=q:=(by omega);simp only[hqq];exact this)]
    rw[List.drop_drop,show i+1+(q - (i+1))=q by omega];congr 2;by_cases h0:0 < q - (i+1)
    ·simp only[h0,dite_true,getElem_drop];congr 2;omega
    ·simp only[h0,dite_false];have:q - 1=i:=(by omega);congr 2
 have:=main l.length 0 [] n (by omega) (by omega) (by simp);simp only[Int.natCast_zero,nil_append,List.drop_zero]at this;rw[this];simp
def ofL (l:List aj):List aj×Int:=
 if l.all OkR then (if l.length>400 then ([],6)else if (aT (aG l)).length>200 then ([],6)else (aT (aG l),0))else ([],1)
def bH (l:List aj):Bool:=decide ((ofL l).2=0)&&decide ((ofL l).1=l)
theorem Hr {l:List aj} {s:aM} (h:s∈aG l):s.column.length<=l.length:=by
 obtain⟨i,hi,rfl⟩:=List.getElem_of_mem h;obtain⟨p1,p2⟩:=j5 (fun a b=>(⟨a,b,aO l a⟩:aM)) (aJ l);have:(aG l)[i]=⟨(aJ l)[i]'(by unfold aG at hi;omega),(aJ l)[i+1]'(by unfold aG at hi;omega),aO l ((aJ l)[i]'(by unfold aG at hi;omega))⟩:=p2 i (by unfold aG at hi;omega) hi;rw[this];exact jG l _
theorem lU (l:List aj):(aG l).length<=2*l.length:=by
 obtain⟨p1,_⟩:=j5 (fun a b=>(⟨a,b,aO l a⟩:aM)) (aJ l);have:=kQ l;unfold aG;omega
theorem aao {n:Nat} {l:List aj} (hl:l.length < 1099511627776) (hl2:l.length < n) (hn:1000<=n):WH n l=some (ofL l):=by
 unfold WH;have h1:=bX (l:=l) (step:=L8 l) (fun i=>(i:Int)) (fun r=>!OkR r) () (fun _=>(([]:List aj),(1:Int))) (fun i hi=>?_) ?_ n (by omega)
 ·rw[show ((0:Nat):Int)=0 from rfl]at h1;rw[h1];have h2:=pM (fun r=>!OkR r) l;cases hf:fI (fun r=>!OkR r) l with
  |some i=>
   rw[hf]at h2;have:l.all OkR=false:=by
    rw[<- Bool.not_eq_true,all_eq_true];intro hall;have h3:=h2.symm;simp only[Option.isSome_some,any_eq_true]at h3;obtain⟨x,hx,hx2⟩:=h3;rw[hall x hx]at hx2;cases hx2
   simp[ofL,this]
  |none=>
   rw[hf]at h2;have:l.all OkR=true:=by
    rw[all_eq_true];intro x hx;cases h:OkR x with
    |true=>rfl
    |false=>
     have:l.any (fun r=>!OkR r)=true:=any_eq_true.2 ⟨x,hx,by rw[h];rfl⟩;rw[this]at h2;cases h2
   have hv:∀ r∈l,OkR r=true:=all_eq_true.1 this;by_cases h400:l.length>400
   ·have d4:decide ((l.length:Int)>400)=true:=(by simp;omega);simp only[fF,d4,cond_true,ofL,this,if_true,if_pos h400]
   have d4:decide ((l.length:Int)>400)=false:=(by simp;omega);have ls:=lU l;simp only[fF,d4,cond_false];have fl:[l].flatten=l:=(by simp);rw[show (sub ([l]:List (List aj)) 0 1)=[l]from rfl,qw (ls:=[l]) (by rw[fl];exact hv) (by rw[fl];omega) (by simp) (by rw[fl];omega) (by simp;omega),fl];simp only[length_singleton,aA,cond_true,bind_some,aV];rw[Hq (b:=400) (by omega) (by omega) (fun s hs=>Nat.le_trans (Hr hs) (by omega)) (by omega) (by omega)];simp only[bind_some,aV,aA,cond_true,yZ,ofL,this,if_true,if_neg h400];by_cases h200:(aT (aG l)).length>200
   ·have:decide (((aT (aG l)).length:Int)>200)=true:=(by simp;omega);simp only[this,cond_true,bind_some,h200,if_true]
   ·have:decide (((aT (aG l)).length:Int)>200)=false:=(by simp;omega);simp only[this,cond_false,bind_some,h200,if_false]
 ·have hi':decide (((i:Nat):Int) < (l.length:Int))=true:=by simpa using hi
  simp only[L8,hi',cond_true,aQ hi,bind_some,rV];cases OkR l[i]with
  |false=>rfl
  |true=>simp only[Bool.not_true,cond_false];rw[aC (by omega)]
 ·simp[L8]
theorem lV {n:Nat} {l:List aj} (hl:l.length < 1099511627776) (hl2:l.length < n) (hn:1000<=n):kD n l=some (bH l):=by
 unfold kD bH;rw[aao hl hl2 hn];simp only[bind_some];by_cases h:(ofL l).2=0
 ·have e:((ofL l).2==0)=true:=by simp[h]
  have lo:(ofL l).1.length<=200:=by
   unfold ofL;split
   ·split
    ·simp
    ·split
     ·simp
     ·simp;omega
   ·simp
  by_cases hlen:(ofL l).1.length < n
  ·simp only[e,cond_true,h,decide_true,Bool.true_and];rw[NK (by omega) hlen];rfl
  ·have:(ofL l).1.length≠l.length:=(by omega);have hne:(ofL l).1≠l:=fun e=>this (by rw[e]);simp only[e,cond_true,h,decide_true,Bool.true_and];unfold kK;have hb:(((ofL l).1.length:Int) != (l.length:Int))=true:=(by simp;omega);rw[hb];simp[hne]
 ·have e:((ofL l).2==0)=false:=by simp[h]
  simp[e,h]
def cellsL (l:List aj) (x y:Int):Bool:=l.any fun r=>(decide (r.x0<=x)&&decide (x < r.x1))&&(decide (r.y0<=y)&&decide (y < r.y1))
theorem Ht (l:List aj) (x y:Int):inS (bE l x) y=cellsL l x y:=by
 induction l with
 |nil=>rfl
 |cons r l ih=>
  unfold bE cellsL at*;rw[List.filter_cons,List.any_cons,<- ih];cases h:(decide (r.x0<=x)&&decide (x < r.x1))with
  |true=>simp only[if_true,map_cons,Bool.true_and];rw[ja]
  |false=>simp
theorem dS {l:List aj} (h:∀ r∈l,OkR r=true) (x:Int):Can (aO l x)∧∀ y,inS (aO l x) y=cellsL l x y:=by
 obtain⟨h1,h2⟩:=NN (Ki h x);exact⟨h1,fun y=>by rw[aO,h2,Ht]⟩
def j6:List aM->Prop
 |[]=>True
 |[s]=>s.x0 < s.x1
 |s::t::l=>s.x0 < s.x1∧s.x1=t.x0∧j6 (t::l)
def gm:List aM->Int->List aD
 |[],_=>[]
 |s::l,x=>bif decide (s.x0<=x)&&decide (x < s.x1)then s.column else gm l x
theorem fH (s:aM) (l:List aM) (x:Int):gm (s::l) x=bif decide (s.x0<=x)&&decide (x < s.x1)then s.column else gm l x:=rfl
def Runs:List aM->Prop
 |[]=>True
 |[s]=>s.x0 < s.x1∧s.column≠[]
 |s::t::l=>(s.x0 < s.x1∧s.column≠[])∧s.x1<=t.x0∧(s.x1=t.x0->s.column≠t.column)∧Runs (t::l)
theorem jH {s:aM} {l:List aM} (h:Runs (s::l)):Runs l:=by
 cases l with
 |nil=>trivial
 |cons t l=>exact h.2.2.2
theorem kR {s:aM} {l:List aM} (h:Runs (s::l)):s.x0 < s.x1∧s.column≠[]:=by
 cases l with
 |nil=>exact h
 |cons t l=>exact h.1
theorem jb:∀ {l:List aM} {b x:Int},Runs l->(∀ s∈l.head?,b<=s.x0)->x < b->gm l x=[]
 |[],_,_,_,_,_=>rfl
 |s::l,b,x,h,hb,hx=>by
  have h0:=hb s rfl;have hs:=kR h;have c:(decide (s.x0<=x)&&decide (x < s.x1))=false:=by rw[Bool.and_eq_false_iff,decide_eq_false_iff_not];left;omega
  rw[fH,c,cond_false];refine jb (jH h) (b:=s.x1) (fun t ht=>?_) (by omega);cases l with
  |nil=>cases ht
  |cons u l=>
   have:t=u:=(by simpa using ht.symm);subst this;exact h.2.1
theorem qy {s:aM} {l:List aM} {x:Int} (h1:s.x0<=x) (h2:x < s.x1):gm (s::l) x=s.column:=by rw[fH,show (decide (s.x0<=x)&&decide (x < s.x1))=true by simp[h1,h2]];rfl
theorem vk {s:aM} {l:List aM} {x:Int} (h:s.x1<=x):gm (s::l) x=gm l x:=by rw[fH,show (decide (s.x0<=x)&&decide (x < s.x1))=false by rw[Bool.and_eq_false_iff,decide_eq_false_iff_not,decide_eq_false_iff_not];right;omega];rfl
theorem aap {s:aM} {l:List aM} (h:Runs (s::l)):gm l s.x1≠s.column:=by
 have hs:=kR h;cases l with
 |nil=>exact fun e=>hs.2 e.symm
 |cons t l=>
  obtain⟨_,h2,h3,h4⟩:=h;have ht:=kR h4;by_cases e:s.x1=t.x0
  ·rw[qy (by omega) (by omega)];exact fun e'=>h3 e e'.symm
  ·rw[jb h4 (b:=t.x0) (fun u hu=>by have:u=t:=by simpa using hu.symm
                                    subst this;exact Int.le_refl _) (by omega)]
   exact fun e'=>hs.2 e'.symm
theorem Pg:∀ {l m:List aM},Runs l->Runs m->(∀ x,gm l x=gm m x)->l=m
 |[],[],_,_,_=>rfl
 |[],b::m,_,hm,h=>by
  have hb:=kR hm;have:=h b.x0;rw[qy (Int.le_refl _) hb.1]at this;exact absurd this.symm hb.2
 |a::l,[],hl,_,h=>by
  have ha:=kR hl;have:=h a.x0;rw[qy (Int.le_refl _) ha.1]at this;exact absurd this ha.2
 |a::l,b::m,hl,hm,h=>by
  have ha:=kR hl;have hb:=kR hm;have e0:a.x0=b.x0:=by
   rcases Int.lt_trichotomy a.x0 b.x0 with hlt |he |hlt
   ·have:=h a.x0
    rw[qy (Int.le_refl _) ha.1,jb hm (b:=b.x0) (fun u hu=>by have:u=b:=by simpa using hu.symm
                                                             subst this;exact Int.le_refl _) hlt]at this
    exact absurd this ha.2
   ·exact he
   ·have:=h b.x0
    rw[qy (Int.le_refl _) hb.1,jb hl (b:=a.x0) (fun u hu=>by have:u=a:=by simpa using hu.symm
                                                             subst this;exact Int.le_refl _) hlt]at this
    exact absurd this.symm hb.2
  have ec:a.column=b.column:=by
   have:=h a.x0
   rwa [qy (Int.le_refl _) ha.1,qy (by omega) (by omega)]at this
  have e1:a.x1=b.x1:=by
   rcases Int.lt_trichotomy a.x1 b.x1 with hlt |he |hlt
   ·have:=h a.x1;rw[vk (Int.le_refl _),qy (by omega) hlt]at this;exact absurd (this.trans ec.symm) (aap hl)
   ·exact he
   ·have:=h b.x1;rw[vk (s:=b) (Int.le_refl _),qy (by omega) hlt]at this;exact absurd (this.symm.trans ec) (aap hm)
  have e:a=b:=by cases a;cases b;simp only at e0 e1 ec;rw[e0,e1,ec]
  subst e;rw[Pg (jH hl) (jH hm) fun x=>?_];by_cases hx:x < a.x1
  ·have bl:=jb (jH hl) (b:=a.x1) (x:=x) (fun t ht=>by
    cases l with
    |nil=>cases ht
    |cons u l=>
     have:t=u:=(by simpa using ht.symm);subst this;exact hl.2.1) hx
   have bm:=jb (jH hm) (b:=a.x1) (x:=x) (fun t ht=>by
    cases m with
    |nil=>cases ht
    |cons u m=>
     have:t=u:=(by simpa using ht.symm);subst this;exact hm.2.1) hx
   rw[bl,bm]
  ·have:=h x
   rwa [vk (by omega),vk (by omega)]at this
def Hu (x0 x1:Int) (c:List aD):List aM:=if c=[]then []else [⟨x0,x1,c⟩]
def FO (x0 x1:Int) (c:List aD):List aM->List aM
 |[]=>Hu x0 x1 c
 |s::l=>if s.column=c then FO x0 s.x1 c l else Hu x0 x1 c++FO s.x0 s.x1 s.column l
def agX:List aM->List aM
 |[]=>[]
 |s::l=>FO s.x0 s.x1 s.column l
def xQ (l:List aM):List aj:=l.flatMap fun s=>aF s.x0 s.x1 s.column
theorem Ph (x0 x1:Int) (c:List aD):xQ (Hu x0 x1 c)=aF x0 x1 c:=by
 unfold Hu;split
 ·rename_i h;subst h;rfl
 ·simp[xQ]
theorem NS:∀ (l:List aM) (x0 x1:Int) (c:List aD),qx x0 x1 c l=xQ (FO x0 x1 c l)
 |[],x0,x1,c=>(Ph x0 x1 c).symm
 |s::l,x0,x1,c=>by
  simp only[qx,FO];split
  ·exact NS l _ _ _
  ·rw[NS l];unfold xQ;rw[List.flatMap_append];congr 1;exact (Ph x0 x1 c).symm
theorem Bf (l:List aM):aT l=xQ (agX l):=by
 cases l with
 |nil=>rfl
 |cons s l=>exact NS l _ _ _
theorem Kj (x0:Int):∀ (l:List aM) (x1:Int) (c:List aD),x0 < x1->(∀ s∈l.head?,x1=s.x0)->j6 l->∀ t∈(FO x0 x1 c l).head?,x0<=t.x0∧(t.x0=x0->t.column=c)
 |[],x1,c,_,_,_,t,ht=>by
  simp only[FO,Hu]at ht;split at ht
  ·cases ht
  ·have:t=⟨x0,x1,c⟩:=(by simpa using ht.symm);subst this;exact⟨Int.le_refl _,fun _=>rfl⟩
 |s::l,x1,c,hx,hc,hS,t,ht=>by
  have e:=hc s rfl;have hs:s.x0 < s.x1∧(∀ u∈l.head?,s.x1=u.x0)∧j6 l:=by
   cases l with
   |nil=>exact⟨hS,fun u hu=>(by cases hu),trivial⟩
   |cons v l=>exact⟨hS.1,fun u hu=>by have:u=v:=by simpa using hu.symm
                                      subst this;exact hS.2.1,hS.2.2⟩
  simp only[FO]at ht;split at ht
  ·exact Kj x0 l s.x1 c (by omega) hs.2.1 hs.2.2 t ht
  ·unfold Hu at ht;split at ht
   ·rw[nil_append]at ht;have:=Kj s.x0 l s.x1 s.column hs.1 hs.2.1 hs.2.2 t ht;exact⟨by omega,fun h=>by omega⟩
   ·have:t=⟨x0,x1,c⟩:=(by simpa using ht.symm);subst this;exact⟨Int.le_refl _,fun _=>rfl⟩
theorem ae0 {s:aM} {l:List aM} (h1:s.x0 < s.x1) (h2:s.column≠[]) (h3:∀ t∈l.head?,s.x1<=t.x0∧(s.x1=t.x0->s.column≠t.column)) (h4:Runs l):Runs (s::l):=by
 cases l with
 |nil=>exact⟨h1,h2⟩
 |cons t l=>
  have:=h3 t rfl;exact⟨⟨h1,h2⟩,this.1,this.2,h4⟩
theorem Kk:∀ (l:List aM) (x0 x1:Int) (c:List aD),x0 < x1->(∀ s∈l.head?,x1=s.x0)->j6 l->
 Runs (FO x0 x1 c l)∧∀ x,gm (FO x0 x1 c l) x=bif decide (x0<=x)&&decide (x < x1)then c else gm l x
 |[],x0,x1,c,hx,_,_=>by
  simp only[FO,Hu];split
  ·rename_i h;subst h;exact⟨trivial,fun x=>by simp[gm]⟩
  ·rename_i h;exact⟨⟨hx,h⟩,fun x=>rfl⟩
 |s::l,x0,x1,c,hx,hc,hS=>by
  have e:=hc s rfl;have hs:s.x0 < s.x1∧(∀ u∈l.head?,s.x1=u.x0)∧j6 l:=by
   cases l with
   |nil=>exact⟨hS,fun u hu=>(by cases hu),trivial⟩
   |cons v l=>exact⟨hS.1,fun u hu=>by have:u=v:=by simpa using hu.symm
                                      subst this;exact hS.2.1,hS.2.2⟩
  simp only[FO];split
  ·rename_i hcol;obtain⟨r1,r2⟩:=Kk l x0 s.x1 c (by omega) hs.2.1 hs.2.2;refine⟨r1,fun x=>?_⟩;rw[r2,fH,hcol];by_cases h1:x0<=x<;>by_cases h2:x < x1<;>by_cases h3:s.x0<=x<;>by_cases h4:x < s.x1<;>simp[h1,h2,h3,h4]<;>omega
  ·rename_i hcol;obtain⟨r1,r2⟩:=Kk l s.x0 s.x1 s.column hs.1 hs.2.1 hs.2.2;have hd:=Kj s.x0 l s.x1 s.column hs.1 hs.2.1 hs.2.2;unfold Hu;split
   ·rename_i hn;subst hn;rw[nil_append];refine⟨r1,fun x=>?_⟩;rw[r2,fH];by_cases h1:x0<=x<;>by_cases h2:x < x1
    ·have h3:¬ s.x0<=x:=(by omega);simp only[h1,h2,h3,decide_true,decide_false,Bool.and_self,Bool.false_and,cond_true,cond_false];have:=jb r1 (b:=s.x0) (x:=x) (fun t ht=>(hd t ht).1) (by omega);rw[r2]at this;simpa[h3]using this
    all_goals simp[h1,h2]
   ·rename_i hn;rw[List.singleton_append];refine⟨ae0 hx hn (fun t ht=>?_) r1,fun x=>?_⟩
    ·obtain⟨d1,d2⟩:=hd t ht;refine⟨by show x1<=t.x0;omega,fun ht2 hcc=>?_⟩;have ht2:x1=t.x0:=ht2;rw[d2 (by omega)]at hcc;exact hcol hcc.symm
    ·rw[fH,r2,fH]
theorem EQ {l:List aM} (h:j6 l):Runs (agX l)∧∀ x,gm (agX l) x=gm l x:=by
 cases l with
 |nil=>exact⟨trivial,fun _=>rfl⟩
 |cons s l=>
  have hs:s.x0 < s.x1∧(∀ u∈l.head?,s.x1=u.x0)∧j6 l:=by
   cases l with
   |nil=>exact⟨h,fun u hu=>(by cases hu),trivial⟩
   |cons v l=>exact⟨h.1,fun u hu=>by have:u=v:=by simpa using hu.symm
                                     subst this;exact h.2.1,h.2.2⟩
  obtain⟨r1,r2⟩:=Kk l s.x0 s.x1 s.column hs.1 hs.2.1 hs.2.2;exact⟨r1,fun x=>by rw[fH];exact r2 x⟩
theorem JJ {l m:List aM} (hl:j6 l) (hm:j6 m) (h:∀ x,gm l x=gm m x):aT l=aT m:=by
 obtain⟨l1,l2⟩:=EQ hl;obtain⟨m1,m2⟩:=EQ hm;rw[Bf,Bf,Pg l1 m1 fun x=>by rw[l2,m2,h]]
theorem Tn (l m:List aj) (x:Int):bE (l++m) x=bE l x++bE m x:=by simp[bE]
theorem Vf (x0 x1:Int) (c:List aD) (x:Int):bE (aF x0 x1 c) x=bif decide (x0<=x)&&decide (x < x1)then c else []:=by
 unfold bE aF
 induction c with
 |nil=>simp
 |cons s c ih=>
  rw[map_cons,List.filter_cons];cases h:(decide (x0<=x)&&decide (x < x1))with
  |true=>rw[h]at ih;simp only[if_true,map_cons,ih,cond_true]
  |false=>rw[h]at ih;simpa using ih
theorem Ms:∀ {l:List aM},Runs l->∀ x,bE (xQ l) x=gm l x
 |[],_,x=>rfl
 |s::l,h,x=>by
  have ih:=Ms (jH h) x;have hs:=kR h;show bE (aF s.x0 s.x1 s.column++xQ l) x=_;rw[Tn,Vf,ih,fH];cases hc:(decide (s.x0<=x)&&decide (x < s.x1))with
  |false=>rfl
  |true=>
   rw[and_eq_true,decide_eq_true_eq,decide_eq_true_eq]at hc;have:=jb (jH h) (b:=s.x1) (x:=x) (fun t ht=>by
    cases l with
    |nil=>cases ht
    |cons u l=>
     have:t=u:=(by simpa using ht.symm);subst this;exact h.2.1) hc.2
   rw[this];simp
theorem zB {l:List aM} (h:j6 l) (x:Int):bE (aT l) x=gm l x:=by
 obtain⟨h1,h2⟩:=EQ h;rw[Bf,Ms h1,h2]
theorem Mt {l:List aM} (h:j6 l) (x y:Int):cellsL (aT l) x y=inS (gm l x) y:=by rw[<- Ht,zB h]
theorem jc {α:Type} (f:Int->Int->α) (a b:Int) (l:List Int):dQ f (a::b::l)=f a b::dQ f (b::l):=rfl
theorem xR (g:Int->List aD):∀ (es:List Int),es.Pairwise (· < ·)->j6 (dQ (fun a b=>(⟨a,b,g a⟩:aM)) es)
 |[],_=>trivial
 |[_],_=>trivial
 |[a,b],h=>by
  have h1:=(pairwise_cons.1 h).1 b (by simp);exact h1
 |a::b::c::l,h=>by
  have h1:=(pairwise_cons.1 h).1 b (by simp);exact⟨h1,rfl,xR g (b::c::l) (pairwise_cons.1 h).2⟩
theorem Hw (g:Int->List aD) (x:Int):∀ (es:List Int),(∀ e∈es,x < e)->gm (dQ (fun a b=>(⟨a,b,g a⟩:aM)) es) x=[]
 |[],_=>rfl
 |[_],_=>rfl
 |a::b::l,h=>by
  have ha:=h a (by simp);rw[jc,fH,show (decide (a<=x)&&decide (x < b))=false by rw[Bool.and_eq_false_iff,decide_eq_false_iff_not];left;omega,cond_false];exact Hw g x (b::l) fun e he=>h e (mem_cons_of_mem _ he)
theorem Hy (g:Int->List aD) (x:Int):∀ (l:List Int) (a:Int),(a::l).Pairwise (· < ·)->a<=x->
 (∀ e∈a::l,e<=x->(∀ e'∈a::l,e'<=e∨x < e')->g e=g x)->((∀ e∈a::l,e<=x)->g x=[])->gm (dQ (fun a b=>(⟨a,b,g a⟩:aM)) (a::l)) x=g x
 |[],a,_,hx,_,h2=>(h2 (fun e he=>by have:e=a:=by simpa using he
                                    subst this;exact hx)).symm
 |b::l,a,hp,hx,h1,h2=>by
  have hab:=(pairwise_cons.1 hp).1 b (by simp);rw[jc,fH];by_cases hb:x < b
  ·rw[show (decide (a<=x)&&decide (x < b))=true by simp[hx,hb],cond_true];refine h1 a (by simp) hx fun e he=>?_;rcases mem_cons.1 he with rfl |he
   ·exact .inl (Int.le_refl _)
   ·right;rcases mem_cons.1 he with rfl |he
    ·exact hb
    ·have:=(pairwise_cons.1 (pairwise_cons.1 hp).2).1 e he;omega
  ·rw[show (decide (a<=x)&&decide (x < b))=false by simp[hb],cond_false];refine Hy g x l b (pairwise_cons.1 hp).2 (by omega) (fun e he hex hc=>h1 e (mem_cons_of_mem _ he) hex fun e' he'=>?_) fun hall=>h2 fun e he=>?_
   ·rcases mem_cons.1 he' with rfl |he'
    ·left;have:=(pairwise_cons.1 hp).1 e he;omega
    ·exact hc e' he'
   ·rcases mem_cons.1 he with rfl |he
    ·exact hx
    ·exact hall e he
theorem Pj (g:Int->List aD) (es:List Int) (hp:es.Pairwise (· < ·)) (x:Int)
 (h1:∀ e∈es,e<=x->(∀ e'∈es,e'<=e∨x < e')->g e=g x) (h2:(∀ e∈es,e<=x)->g x=[]) (h3:(∀ e∈es,x < e)->g x=[]):gm (dQ (fun a b=>(⟨a,b,g a⟩:aM)) es) x=g x:=by
 cases es with
 |nil=>exact (h3 (by simp)).symm
 |cons a l=>
  by_cases hx:a<=x
  ·exact Hy g x l a hp hx h1 h2
  ·have hall:∀ e∈a::l,x < e:=by
    intro e he;rcases mem_cons.1 he with rfl |he
    ·omega
    ·have:=(pairwise_cons.1 hp).1 e he;omega
   rw[Hw g x _ hall,h3 hall]
theorem zC {l:List aj} {z:Int}:z∈aJ l↔∃ r∈l,z=r.x0∨z=r.x1:=by
 rw[aJ,uE,mem_flatMap];simp
theorem kS (l:List aj):(aJ l).Pairwise (· < ·):=iT _
theorem BQ {l:List aj} {es:List Int} (hes:∀ r∈l,r.x0∈es∧r.x1∈es) {e x:Int} (hex:e<=x) (hc:∀ e'∈es,e'<=e∨x < e'):bE l e=bE l x:=by
 unfold bE;congr 1;refine List.filter_congr fun r hr=>?_;obtain⟨h0,h1⟩:=hes r hr;have:=hc _ h0;have:=hc _ h1;rw[Bool.eq_iff_iff,and_eq_true,and_eq_true,decide_eq_true_eq,decide_eq_true_eq,decide_eq_true_eq,decide_eq_true_eq];omega
theorem mD {l:List aj} {x:Int} (h:∀ r∈l,x < r.x0∨r.x1<=x):bE l x=[]:=by
 unfold bE;rw[List.map_eq_nil_iff,List.filter_eq_nil_iff];intro r hr;have:=h r hr;rw[and_eq_true,decide_eq_true_eq,decide_eq_true_eq];omega
theorem jI (l:List aj):j6 (aG l):=xR _ _ (kS l)
theorem kT (l:List aj) (x:Int):gm (aG l) x=aO l x:=by
 have hes:∀ r∈l,r.x0∈aJ l∧r.x1∈aJ l:=fun r hr=>⟨zC.2 ⟨r,hr,.inl rfl⟩,zC.2 ⟨r,hr,.inr rfl⟩⟩;refine Pj (aO l) (aJ l) (kS l) x (fun e _ hex hc=>?_) (fun hall=>?_) (fun hall=>?_)
 ·unfold aO;rw[BQ hes hex hc]
 ·unfold aO;rw[mD fun r hr=> .inr (hall _ (hes r hr).2)];rfl
 ·unfold aO;rw[mD fun r hr=> .inl (hall _ (hes r hr).1)];rfl
theorem agY {c:List aD} (h:Can c):Ye c=c:=by
 obtain⟨h1,h2⟩:=NN h.2;exact rU h1 h h2
theorem aaq {l:List aM} {r:aj}:r∈xQ l↔∃ s∈l,∃ q∈s.column,r=⟨s.x0,q.from_,s.x1,q.to⟩:=by
 simp only[xQ,aF,mem_flatMap,mem_map];constructor
 ·rintro⟨s,hs,q,hq,rfl⟩;exact⟨s,hs,q,hq,rfl⟩
 ·rintro⟨s,hs,q,hq,rfl⟩;exact⟨s,hs,q,hq,rfl⟩
theorem Pk:∀ {l:List aM},Runs l->∀ s∈l,s.x0 < s.x1∧∀ x,s.x0<=x->x < s.x1->gm l x=s.column
 |[],_,s,hs=>by simp at hs
 |t::l,h,s,hs=>by
  rcases mem_cons.1 hs with rfl |hs
  ·exact⟨(kR h).1,fun x h1 h2=>qy h1 h2⟩
  ·obtain⟨g1,g2⟩:=Pk (jH h) s hs;refine⟨g1,fun x h1 h2=>?_⟩;have:t.x1<=x:=by
    by_cases hlt:x < t.x1
    ·have hb:=jb (jH h) (b:=t.x1) (x:=x) (fun u hu=>by
      cases l with
      |nil=>cases hu
      |cons v l=>
       have:u=v:=(by simpa using hu.symm);subst this;exact h.2.1) hlt
     rw[g2 x h1 h2]at hb;have hne:s.column≠[]:=by
      have:∀ {l:List aM},Runs l->∀ s∈l,s.column≠[]:=by
       intro l
       induction l with
       |nil=>intro _ s hs;simp at hs
       |cons a l ih=>
        intro h s hs;rcases mem_cons.1 hs with rfl |hs
        ·exact (kR h).2
        ·exact ih (jH h) s hs
      exact this (jH h) s hs
     exact absurd hb hne
    ·omega
   rw[vk this,g2 x h1 h2]
theorem Yg {S:List aM} (hS:j6 S) (hc:∀ x,Can (gm S x)) (hb:∀ x y,inS (gm S x) y=true->(0<=x∧x < 1048576)∧(0<=y∧y < 1048576)) (hl:(aT S).length<=200):bH (aT S)=true:=by
 have hok:∀ r∈aT S,OkR r=true:=by
  intro r hr;obtain⟨r1,r2⟩:=EQ hS;rw[Bf,aaq]at hr;obtain⟨s,hs,q,hq,rfl⟩:=hr;obtain⟨g1,g2⟩:=Pk r1 s hs;have c0:=g2 s.x0 (Int.le_refl _) g1;have c1:=g2 (s.x1 - 1) (by omega) (by omega);rw[r2]at c0 c1;have hcan:=hc s.x0;rw[c0]at hcan;have hq1:q.from_ < q.to:=hcan.2 q hq;have b0:=hb s.x0 q.from_ (by rw[c0,qo];exact⟨q,hq,Int.le_refl _,hq1⟩);have b1:=hb (s.x1 - 1) (q.to - 1) (by rw[c1,qo];exact⟨q,hq,by omega,by omega⟩);simp only[OkR,and_eq_true,decide_eq_true_eq];omega
 have he:aT (aG (aT S))=aT S:=by
  refine JJ (jI _) hS fun x=>?_;rw[kT,aO,zB hS,agY (hc x)]
 unfold bH ofL;rw[if_pos (all_eq_true.2 hok),if_neg (by omega),he,if_neg (by omega)];simp
theorem ae1 {a:List aj} (h:bH a=true):ofL a=(a,0):=by
 unfold bH at h;rw[and_eq_true,decide_eq_true_eq,decide_eq_true_eq]at h;obtain⟨h1,h2⟩:=h;exact Prod.ext h2 h1
theorem bZ {a:List aj} (h:bH a=true):(∀ r∈a,OkR r=true)∧a.length<=200∧aT (aG a)=a:=by
 have h:=ae1 h;unfold ofL at h;split at h
 ·rename_i hall;split at h
  ·simp at h
  ·split at h
   ·simp at h
   ·rename_i h200;injection h with h _;refine⟨all_eq_true.1 hall,?_,h⟩;rw[<- h];omega
 ·simp at h
theorem Mv {a:List aj} (h:∀ r∈a,OkR r=true) {x y:Int} (hc:cellsL a x y=true):(0<=x∧x < 1048576)∧(0<=y∧y < 1048576):=by
 simp only[cellsL,any_eq_true,and_eq_true,decide_eq_true_eq]at hc;obtain⟨q,hq,h1,h2⟩:=hc;have:=h q hq;simp only[OkR,and_eq_true,decide_eq_true_eq]at this;omega
def ext (out:List aD) (p:aD):List aD:=
 match out.getLast? with
 |some q=>bif q.to==p.from_ then out.dropLast++[⟨q.from_,p.to⟩]else out++[p]
 |none=>[p]
def ysL (a b:List aD):List Int:=kV ((a++b).flatMap fun s=>[s.from_,s.to])
def fq (keep:Bool->Bool->Bool) (a b:List aD):List aD:=
 ((dQ aD.mk (ysL a b)).filter fun p=>keep (inS a p.from_) (inS b p.from_)).foldl ext []
theorem Tp (o:List aD) (q p:aD):ext (o++[q]) p=bif q.to==p.from_ then o++[⟨q.from_,p.to⟩]else o++[q]++[p]:=by simp[ext]
theorem agZ {out:List aD} {p:aD} (hc:Can out) (hp:OkS p) (hb:∀ o∈out,o.to<=p.from_):
 Can (ext out p)∧(∀ o∈ext out p,o.to<=p.to)∧∀ y,inS (ext out p) y=(inS out y || inS [p] y):=by
 have hp':p.from_ < p.to:=hp;rcases List.eq_nil_or_concat out with rfl |⟨o,q,rfl⟩
 ·refine⟨⟨by simp[ext],by simp[ext];exact hp⟩,by simp[ext],fun y=>by simp[ext,inS]⟩
 ·rw[List.concat_eq_append]at*;obtain⟨h1,h2⟩:=hc;rw[pairwise_append]at h1;obtain⟨p1,_,p3⟩:=h1;have hq:q.from_ < q.to:=h2 q (by simp);have hqp:q.to<=p.from_:=hb q (by simp);rw[Tp];cases hj:q.to==p.from_ with
  |true=>
   have hj:=eq_of_beq hj;simp only[cond_true];refine⟨⟨?_,?_⟩,?_,?_⟩
   ·rw[pairwise_append];refine⟨p1,by simp,fun a ha b hb'=>?_⟩;rw[mem_singleton]at hb';subst hb';exact p3 a ha q (by simp)
   ·intro a ha;rcases mem_append.1 ha with ha |ha
    ·exact h2 a (by simp[ha])
    ·rw[mem_singleton]at ha;subst ha;show q.from_ < p.to;omega
   ·intro a ha;rcases mem_append.1 ha with ha |ha
    ·have:=hb a (by simp[ha]);omega
    ·rw[mem_singleton]at ha;subst ha;exact Int.le_refl _
   ·intro y;rw[lQ,lQ,Bool.or_assoc];congr 1;simp only[ja,tZ,Bool.or_false];rw[Bool.eq_iff_iff];simp only[and_eq_true,Bool.or_eq_true,decide_eq_true_eq];omega
  |false=>
   rw[beq_eq_false_iff_ne]at hj;simp only[cond_false];refine⟨⟨?_,?_⟩,?_,?_⟩
   ·rw[pairwise_append];refine⟨?_,by simp,fun a ha b hb'=>?_⟩
    ·rw[pairwise_append];exact⟨p1,by simp,p3⟩
    ·rw[mem_singleton]at hb';subst hb';rcases mem_append.1 ha with ha |ha
     ·have:=p3 a ha q (by simp);omega
     ·rw[mem_singleton]at ha;subst ha;omega
   ·intro a ha;rcases mem_append.1 ha with ha |ha
    ·exact h2 a ha
    ·rw[mem_singleton]at ha;subst ha;exact hp
   ·intro a ha;rcases mem_append.1 ha with ha |ha
    ·have:=hb a ha;omega
    ·rw[mem_singleton]at ha;subst ha;exact Int.le_refl _
   ·intro y;rw[lQ]
theorem WN:∀ (l out:List aD),Can out->(∀ s∈l,OkS s)->l.Pairwise (fun x y=>x.to<=y.from_)->(∀ o∈out,∀ s∈l,o.to<=s.from_)->Can (l.foldl ext out)∧∀ y,inS (l.foldl ext out) y=(inS out y || inS l y)
 |[],out,hc,_,_,_=>⟨hc,fun y=>by simp[tZ]⟩
 |s::l,out,hc,hv,hp,hb=>by
  rw[pairwise_cons]at hp;obtain⟨m1,m2,m3⟩:=agZ hc (hv s (by simp)) (fun o ho=>hb o ho s (by simp));obtain⟨f1,f2⟩:=WN l (ext out s) m1 (fun t ht=>hv t (by simp[ht])) hp.2 (fun o ho t ht=>Int.le_trans (m2 o ho) (hp.1 t ht));refine⟨f1,fun y=>?_⟩;rw[foldl_cons,f2,m3,Bool.or_assoc,<- lQ];rfl
theorem aar:∀ (es:List Int),es.Pairwise (· < ·)->(∀ p∈dQ aD.mk es,OkS p∧p.from_∈es∧p.to∈es∧∀ e∈es,e<=p.from_∨p.to<=e)∧(dQ aD.mk es).Pairwise fun x y=>x.to<=y.from_
 |[],_=>⟨by simp[dQ],by simp[dQ]⟩
 |[_],_=>⟨by simp[dQ],by simp[dQ]⟩
 |a::b::l,h=>by
  obtain⟨h1,h2⟩:=pairwise_cons.1 h;obtain⟨i1,i2⟩:=aar (b::l) h2;have hab:=h1 b (by simp);rw[jc];refine⟨fun p hp=>?_,?_⟩
  ·rcases mem_cons.1 hp with rfl |hp
   ·refine⟨hab,by simp,by simp,fun e he=>?_⟩;rcases mem_cons.1 he with rfl |he
    ·exact .inl (Int.le_refl _)
    ·right;rcases mem_cons.1 he with rfl |he
     ·exact Int.le_refl _
     ·have:=(pairwise_cons.1 h2).1 e he;show b<=e;omega
   ·obtain⟨g1,g2,g3,g4⟩:=i1 p hp;refine⟨g1,mem_cons_of_mem _ g2,mem_cons_of_mem _ g3,fun e he=>?_⟩;rcases mem_cons.1 he with rfl |he
    ·left;have:=h1 _ g2;omega
    ·exact g4 e he
  ·rw[pairwise_cons];refine⟨fun p hp=>?_,i2⟩;obtain⟨_,g2,_,_⟩:=i1 p hp;show b<=p.from_;rcases mem_cons.1 g2 with e |g2
   ·omega
   ·have:=(pairwise_cons.1 h2).1 _ g2;omega
theorem Pm:∀ (es:List Int) (y:Int),(∃ e∈es,e<=y)->(∃ e∈es,y < e)->es.Pairwise (· < ·)->∃ p∈dQ aD.mk es,p.from_<=y∧y < p.to
 |[],y,⟨e,he,_⟩,_,_=>by simp at he
 |[a],y,⟨e,he,h1⟩,⟨e',he',h2⟩,_=>by
  have:e=a:=by simpa using he
  have:e'=a:=by simpa using he'
  omega
 |a::b::l,y,h1,h2,hp=>by
  obtain⟨g1,g2⟩:=pairwise_cons.1 hp;rw[jc];by_cases hb:y < b
  ·refine⟨⟨a,b⟩,by simp,?_,hb⟩;obtain⟨e,he,hey⟩:=h1;show a<=y;rcases mem_cons.1 he with rfl |he
   ·exact hey
   ·have:=g1 e he;omega
  ·obtain⟨e',he',h2'⟩:=h2;obtain⟨p,hp,q⟩:=Pm (b::l) y ⟨b,by simp,by omega⟩ ⟨e',(by
    rcases mem_cons.1 he' with rfl |he'
    ·have:=g1 b (by simp);omega
    ·exact he'),h2'⟩ g2
   exact⟨p,mem_cons_of_mem _ hp,q⟩
theorem WO {c:List aD} {es:List Int} (hes:∀ s∈c,s.from_∈es∧s.to∈es) {e y:Int} (hey:e<=y) (hc:∀ e'∈es,e'<=e∨y < e'):inS c e=inS c y:=by
 rw[Bool.eq_iff_iff,qo,qo];constructor
 ·rintro⟨s,hs,h1,h2⟩;have:=hc _ (hes s hs).1;have:=hc _ (hes s hs).2;exact⟨s,hs,by omega,by omega⟩
 ·rintro⟨s,hs,h1,h2⟩;have:=hc _ (hes s hs).1;have:=hc _ (hes s hs).2;exact⟨s,hs,by omega,by omega⟩
theorem Bg {keep:Bool->Bool->Bool} (hk:keep false false=false) (a b:List aD):Can (fq keep a b)∧∀ y,inS (fq keep a b) y=keep (inS a y) (inS b y):=by
 have hstr:(ysL a b).Pairwise (· < ·):=iT _;have hmem:∀ z,z∈ysL a b↔∃ s,(s∈a∨s∈b)∧(z=s.from_∨z=s.to):=by
  intro z;rw[ysL,uE,mem_flatMap];simp
 have ha:∀ s∈a,s.from_∈ysL a b∧s.to∈ysL a b:=fun s hs=>⟨(hmem _).2 ⟨s,.inl hs,.inl rfl⟩,(hmem _).2 ⟨s,.inl hs,.inr rfl⟩⟩;have hb:∀ s∈b,s.from_∈ysL a b∧s.to∈ysL a b:=fun s hs=>⟨(hmem _).2 ⟨s,.inr hs,.inl rfl⟩,(hmem _).2 ⟨s,.inr hs,.inr rfl⟩⟩;obtain⟨p1,p2⟩:=aar (ysL a b) hstr;obtain⟨f1,f2⟩:=WN ((dQ aD.mk (ysL a b)).filter fun p=>keep (inS a p.from_) (inS b p.from_)) [] Mq (fun s hs=>(p1 s (mem_filter.1 hs).1).1) (p2.filter _) (by simp);refine⟨f1,fun y=>?_⟩;rw[fq,f2,tZ,Bool.false_or];by_cases hin:(∃ e∈ysL a b,e<=y)∧(∃ e∈ysL a b,y < e)
 ·obtain⟨p,hp,h1,h2⟩:=Pm _ y hin.1 hin.2 hstr;obtain⟨_,_,_,q4⟩:=p1 p hp;have hc:∀ e'∈ysL a b,e'<=p.from_∨y < e':=fun e' he'=>by rcases q4 e' he' with h |h<;>omega
  rw[<- WO ha h1 hc,<- WO hb h1 hc,Bool.eq_iff_iff,qo];constructor
  ·rintro⟨s,hs,g1,g2⟩;rw[mem_filter]at hs;obtain⟨_,r2,r3,r4⟩:=p1 s hs.1;have:s.from_=p.from_:=by
    have e1:=q4 _ r2;have e2:=r4 _ (p1 p hp).2.1;omega
   rw[<- this];exact hs.2
  ·intro hkk;exact⟨p,mem_filter.2 ⟨hp,hkk⟩,h1,h2⟩
 ·have out:∀ c:List aD,(∀ s∈c,s.from_∈ysL a b∧s.to∈ysL a b)->inS c y=false:=by
   intro c hc;cases hy:inS c y with
   |false=>rfl
   |true=>
    obtain⟨s,hs,g1,g2⟩:=(qo _ _).1 hy;exact absurd ⟨⟨_,(hc s hs).1,g1⟩,⟨_,(hc s hs).2,g2⟩⟩ hin
  rw[out a ha,out b hb,hk];refine out _ fun s hs=>?_;obtain⟨_,r2,r3,_⟩:=p1 s (mem_filter.1 hs).1;exact⟨r2,r3⟩
def gq (keep:Bool->Bool->Bool) (a b:List aj):List aM:=
 dQ (fun x x'=>(⟨x,x',fq keep (aO a x) (aO b x)⟩:aM)) (aJ (a++b))
def fT (keep:Bool->Bool->Bool) (a b:List aj):List aj×Int:=
 if bH a&&bH b then (if (aT (gq keep a b)).length>200 then ([],6)else (aT (gq keep a b),0))else ([],1)
theorem IX {keep:Bool->Bool->Bool} (hk:keep false false=false) (a b:List aj) (x:Int):gm (gq keep a b) x=fq keep (aO a x) (aO b x):=by
 have hes:∀ r∈a++b,r.x0∈aJ (a++b)∧r.x1∈aJ (a++b):=fun r hr=>⟨zC.2 ⟨r,hr,.inl rfl⟩,zC.2 ⟨r,hr,.inr rfl⟩⟩;have ha:∀ r∈a,r.x0∈aJ (a++b)∧r.x1∈aJ (a++b):=fun r hr=>hes r (List.mem_append_left _ hr);have hb:∀ r∈b,r.x0∈aJ (a++b)∧r.x1∈aJ (a++b):=fun r hr=>hes r (List.mem_append_right _ hr);have hnil:fq keep [] []=[]:=rfl;have e0:Ye []=[]:=rfl;refine Pj (fun x=>fq keep (aO a x) (aO b x)) (aJ (a++b)) (kS _) x (fun e _ hex hc=>?_) (fun hall=>?_) (fun hall=>?_)
 ·unfold aO;rw[BQ ha hex hc,BQ hb hex hc]
 ·unfold aO;rw[mD fun r hr=> .inr (hall _ (ha r hr).2),mD fun r hr=> .inr (hall _ (hb r hr).2),e0,hnil]
 ·unfold aO;rw[mD fun r hr=> .inl (hall _ (ha r hr).1),mD fun r hr=> .inl (hall _ (hb r hr).1),e0,hnil]
theorem JK {keep:Bool->Bool->Bool} (hk:keep false false=false) {a b r:List aj} (h:fT keep a b=(r,0)):bH a=true∧bH b=true∧bH r=true∧∀ x y,cellsL r x y=keep (cellsL a x y) (cellsL b x y):=by
 unfold fT at h;split at h
 ·rename_i hab;rw[and_eq_true]at hab;split at h
  ·simp at h
  ·rename_i h200;injection h with h _;subst h;obtain⟨a1,_,_⟩:=bZ hab.1;obtain⟨b1,_,_⟩:=bZ hab.2;have hS:j6 (gq keep a b):=xR _ _ (kS _);have hcell:∀ x y,inS (gm (gq keep a b) x) y=keep (cellsL a x y) (cellsL b x y):=by
    intro x y;rw[IX hk,(Bg hk _ _).2,(dS a1 x).2,(dS b1 x).2]
   refine⟨hab.1,hab.2,Yg hS (fun x=>by rw[IX hk];exact (Bg hk _ _).1) (fun x y hy=>?_) (by omega),fun x y=>by rw[Mt hS,hcell]⟩;rw[hcell]at hy;cases ca:cellsL a x y with
   |true=>exact Mv a1 ca
   |false=>
    cases cb:cellsL b x y with
    |true=>exact Mv b1 cb
    |false=>rw[ca,cb,hk]at hy;cases hy
 ·simp at h
def Tq {α:Type} (a0:List α) (a1:Int) (a2:(α×Int×Unit)->Option Int):(Int×Int)->Option ((Int×Int) ⊕ Int)
 |(v1,v2)=>(bif (decide (v1 < (v2:Int)))then bif (decide (0<=1)&&decide (1<=IntKind.u64.bits))then (at? a0 (i64.wrap ((IntKind.u64.wrap (i64.wrap (v1+v2)))/2 ^ (1:Int).toNat))).bind fun x1=>(a2 (x1,a1,())).bind fun r1=>(bif (decide (r1 < (0:Int)))then some (.inl ((i64.wrap ((i64.wrap ((IntKind.u64.wrap (i64.wrap (v1+v2)))/2 ^ (1:Int).toNat))+1)),v2))else some (.inl (v1,(i64.wrap ((IntKind.u64.wrap (i64.wrap (v1+v2)))/2 ^ (1:Int).toNat)))))else none else some (.inr v1))
theorem aas {α:Type} {l:List α} {key:Int} {φ:(α×Int×Unit)->Option Int} (p:α->Bool) (f:α->Int) (hφ:∀ x,φ (x,key,())=some (f x)) (hf:∀ x,decide (f x < 0)=p x)
 (hm:∀ i j (hj:j < l.length) (hij:i < j),p l[j]=true->p (l[i]'(by omega))=true) (hl:l.length < 1099511627776):
 ∀ (m i j n:Nat),j - i<=m->i<=j->j<=l.length->(∀ k (hk:k < i) (hkl:k < l.length),p l[k]=true)->(∀ k (hk:j<=k) (hkl:k < l.length),p l[k]=false)->m < n->
 ∃ w:Nat,w<=l.length∧iter (Tq l key φ) n ((i:Int),(j:Int))=some (w:Int)∧(∀ k (hk:k < w) (hkl:k < l.length),p l[k]=true)∧∀ k (hk:w<=k) (hkl:k < l.length),p l[k]=false:=by
 intro m
 induction m with
 |zero=>
  intro i j n hm0 hij hjl h1 h2 hn;obtain⟨n,rfl⟩:∃ q,n=q+1:=⟨n - 1,by omega⟩;have:i=j:=by omega
  subst this;exact⟨i,hjl,aS (by simp[Tq]),h1,h2⟩
 |succ m ih=>
  intro i j n hm0 hij hjl h1 h2 hn;obtain⟨n,rfl⟩:∃ q,n=q+1:=⟨n - 1,by omega⟩;by_cases hlt:i < j
  ·have c:decide (((i:Nat):Int) < ((j:Nat):Int))=true:=(by simpa using hlt);have c1:(decide (0<=1)&&decide (1<=IntKind.u64.bits))=true:=rfl;have e:i64.wrap ((IntKind.u64.wrap (i64.wrap (((i:Nat):Int)+((j:Nat):Int))))/2 ^ (1:Int).toNat)=(((i+j)/2:Nat):Int):=by
    rw[LJ (by omega),jD (by omega),show ((((i+j:Nat):Int))/2 ^ (1:Int).toNat)=(((i+j)/2:Nat):Int)by
     rw[show (1:Int).toNat=1 from rfl,Int.pow_one];omega,jC (by omega)]
   have hh:(i+j)/2 < l.length:=(by omega);cases hp:p l[(i+j)/2]with
   |true=>
    have s:Tq l key φ ((i:Int),(j:Int))=some (.inl ((((i+j)/2+1:Nat):Int),(j:Int))):=by
     simp only[Tq,c,cond_true,c1,e,aQ hh,bind_some,hφ,hf,hp];rw[aC (by omega)]
    rw[bf s];refine ih _ _ n (by omega) (by omega) hjl (fun k hk hkl=>?_) h2 (by omega);by_cases hk2:k < (i+j)/2
    ·exact hm k _ hh hk2 hp
    ·have:k=(i+j)/2:=(by omega);subst this;exact hp
   |false=>
    have s:Tq l key φ ((i:Int),(j:Int))=some (.inl ((i:Int),(((i+j)/2:Nat):Int))):=(by simp only[Tq,c,cond_true,c1,e,aQ hh,bind_some,hφ,hf,hp,cond_false]);rw[bf s];refine ih _ _ n (by omega) (by omega) (by omega) h1 (fun k hk hkl=>?_) (by omega);by_cases hk2:(i+j)/2 < k
    ·cases hpk:p l[k]with
     |false=>rfl
     |true=>have:=hm _ k hkl hk2 hpk;rw[hp]at this;cases this
    ·have:k=(i+j)/2:=(by omega);subst this;exact hp
  ·have:i=j:=(by omega);subst this;exact⟨i,hjl,aS (by simp[Tq]),h1,h2⟩
theorem ag0 (l:List aM) (key:Int) (φ:(aM×Int×Unit)->Option Int):iW l key φ=Tq l key φ:=by funext ⟨a,b⟩;rfl
theorem ah1 (l:List aD) (key:Int) (φ:(aD×Int×Unit)->Option Int):jv l key φ=Tq l key φ:=by funext ⟨a,b⟩;rfl
theorem Tt:∀ {l:List aM},j6 l->l.Pairwise (fun s t=>s.x1<=t.x0)∧∀ s∈l,s.x0 < s.x1
 |[],_=>⟨List.Pairwise.nil,by simp⟩
 |[s],h=>⟨by simp,fun t ht=>by have:t=s:=by simpa using ht
                               subst this;exact h⟩
 |s::t::l,h=>by
  obtain⟨h1,h2,h3⟩:=h;obtain⟨p1,p2⟩:=Tt h3;refine⟨?_,?_⟩
  ·rw[pairwise_cons];refine⟨fun u hu=>?_,p1⟩;rcases mem_cons.1 hu with rfl |hu
   ·omega
   ·have:=(pairwise_cons.1 p1).1 u hu;have:=p2 t (by simp);omega
  ·intro u hu;rcases mem_cons.1 hu with rfl |hu
   ·exact h1
   ·exact p2 u hu
theorem Kl {x:Int}:∀ {l:List aM},(∀ s∈l,¬ (s.x0<=x∧x < s.x1))->gm l x=[]
 |[],_=>rfl
 |s::l,h=>by
  have:=h s (by simp);rw[fH,show (decide (s.x0<=x)&&decide (x < s.x1))=false by rw[Bool.and_eq_false_iff,decide_eq_false_iff_not,decide_eq_false_iff_not];omega,cond_false];exact Kl fun t ht=>h t (by simp[ht])
theorem WQ {x:Int}:∀ {l:List aM} {w:Nat} (hw:w < l.length),(∀ k (hk:k < w),¬ ((l[k]'(by omega)).x0<=x∧x < (l[k]'(by omega)).x1))->l[w].x0<=x->x < l[w].x1->gm l x=l[w].column
 |[],w,hw,_,_,_=>by simp at hw
 |s::l,0,hw,_,h0,h1=>qy h0 h1
 |s::l,w+1,hw,hk,h0,h1=>by
  have hs:=hk 0 (by omega);simp only[List.getElem_cons_zero]at hs;rw[fH,show (decide (s.x0<=x)&&decide (x < s.x1))=false by rw[Bool.and_eq_false_iff,decide_eq_false_iff_not,decide_eq_false_iff_not];omega,cond_false];exact WQ (by simpa using hw) (fun k hk'=>by have:=hk (k+1) (by omega);simpa using this) h0 h1
theorem aat {n:Nat} {l:List aM} {x:Int} (h:j6 l) (hl:l.length < 1099511627776) (hn:l.length < n):Te n l x=some (gm l x):=by
 obtain⟨a1,a2⟩:=Tt h;rw[pairwise_iff_getElem]at a1
 have run:=aas (l:=l) (key:=x) (φ:=fun (y1:aM×Int×Unit)=>uQ y1.1 y1.2.1) (fun s=>decide (s.x1<=x)) (fun s=>if s.x1<=x then -1 else 1)
  (fun s=>by show uQ s x=_;unfold uQ;by_cases c:s.x1<=x<;>simp[c]) (fun s=>by by_cases c:s.x1<=x<;>simp[c])
  (fun i j hj hij hp=>by
   rw[decide_eq_true_eq]at hp ⊢;have:=a1 i j (by omega) hj hij;have:=a2 l[j] (getElem_mem _);omega) hl l.length 0 l.length n (by omega) (by omega) (Nat.le_refl _) (fun k hk=>by omega) (fun k hk hkl=>by omega) hn
 obtain⟨w,hw,e,h1,h2⟩:=run;unfold Te fQ;rw[ag0];have e':iter (Tq l x fun (y1:aM×Int×Unit)=>uQ y1.1 y1.2.1) n ((0:Int),((l.length:Nat):Int))=some (w:Int):=e;rw[e'];simp only[bind_some];have tail:∀ b:Int,∃ bb,((bif (decide ((w:Int) < ((l.length:Int):Int)))then (at? l (w:Int)).bind fun x2=>(uQ x2 x).bind fun r2=>some ((w:Int),(r2==b))else some ((w:Int),false)):Option (Int×Bool))=some ((w:Int),bb):=by
  intro b;by_cases c:w < l.length
  ·have d:decide ((w:Int) < (l.length:Int))=true:=(by simpa using c);rw[d,cond_true,aQ c,bind_some];unfold uQ;cases decide (l[w].x1<=x)<;>exact⟨_,rfl⟩
  ·have d:decide ((w:Int) < (l.length:Int))=false:=(by simp;omega);rw[d];exact⟨_,rfl⟩
 obtain⟨bb,hbb⟩:=tail 0;rw[hbb,bind_some];simp only[];by_cases c:w < l.length
 ·have d:decide ((w:Int) < (l.length:Int))=true:=by simpa using c
  simp only[d,cond_true,aQ c,bind_some];have hx1:=h2 w (Nat.le_refl _) c;rw[decide_eq_false_iff_not]at hx1;by_cases c2:l[w].x0<=x
  ·simp only[c2,decide_true,cond_true];rw[WQ c (fun k hk hh=>?_) c2 (by omega)];have:=h1 k hk (by omega);rw[decide_eq_true_eq]at this;omega
  ·simp only[c2,decide_false,cond_false];rw[Kl fun s hs hh=>?_];obtain⟨k,hk,rfl⟩:=mem_iff_getElem.1 hs;rcases Nat.lt_trichotomy k w with hkw |rfl |hkw
   ·have:=h1 k hkw hk;rw[decide_eq_true_eq]at this;omega
   ·omega
   ·have:=a1 w k c hk hkw;have:=a2 l[w] (getElem_mem _);omega
 ·have d:decide ((w:Int) < (l.length:Int))=false:=by simp;omega
  simp only[d,cond_false,bind_some];rw[Kl fun s hs hh=>?_];obtain⟨k,hk,rfl⟩:=mem_iff_getElem.1 hs;have:=h1 k (by omega) hk;rw[decide_eq_true_eq]at this;omega
theorem Mw {n:Nat} {l:List aD} {y:Int} (h:Can l) (hl:l.length < 1099511627776) (hn:l.length < n):Dc n l y=some (inS l y):=by
 obtain⟨a1,a2⟩:=h;rw[pairwise_iff_getElem]at a1
 have run:=aas (l:=l) (key:=y) (φ:=fun (y1:aD×Int×Unit)=>iX y1.1 y1.2.1) (fun s=>decide (s.to<=y)) (fun s=>if s.to<=y then -1 else 1)
  (fun s=>by show iX s y=_;unfold iX;by_cases c:s.to<=y<;>simp[c]) (fun s=>by by_cases c:s.to<=y<;>simp[c])
  (fun i j hj hij hp=>by
   rw[decide_eq_true_eq]at hp ⊢;have:=a1 i j (by omega) hj hij;have:l[j].from_ < l[j].to:=a2 l[j] (getElem_mem _);omega) hl l.length 0 l.length n (by omega) (by omega) (Nat.le_refl _) (fun k hk=>by omega) (fun k hk hkl=>by omega) hn
 obtain⟨w,hw,e,h1,h2⟩:=run;unfold Dc gy;rw[ah1];have e':iter (Tq l y fun (y1:aD×Int×Unit)=>iX y1.1 y1.2.1) n ((0:Int),((l.length:Nat):Int))=some (w:Int):=e;rw[e'];simp only[bind_some];have tail:∀ b:Int,∃ bb,((bif (decide ((w:Int) < ((l.length:Int):Int)))then (at? l (w:Int)).bind fun x2=>(iX x2 y).bind fun r2=>some ((w:Int),(r2==b))else some ((w:Int),false)):Option (Int×Bool))=some ((w:Int),bb):=by
  intro b;by_cases c:w < l.length
  ·have d:decide ((w:Int) < (l.length:Int))=true:=(by simpa using c);rw[d,cond_true,aQ c,bind_some];unfold iX;cases decide (l[w].to<=y)<;>exact⟨_,rfl⟩
  ·have d:decide ((w:Int) < (l.length:Int))=false:=(by simp;omega);rw[d];exact⟨_,rfl⟩
 obtain⟨bb,hbb⟩:=tail 0;rw[hbb,bind_some];simp only[];by_cases c:w < l.length
 ·have d:decide ((w:Int) < (l.length:Int))=true:=by simpa using c
  simp only[d,cond_true,aQ c,bind_some];have hx1:=h2 w (Nat.le_refl _) c;rw[decide_eq_false_iff_not]at hx1;congr 1;rw[Bool.eq_iff_iff,decide_eq_true_eq,qo];constructor
  ·exact fun hf=>⟨l[w],getElem_mem _,hf,by omega⟩
  ·rintro⟨s,hs,g1,g2⟩;obtain⟨k,hk,rfl⟩:=mem_iff_getElem.1 hs;rcases Nat.lt_trichotomy k w with hkw |rfl |hkw
   ·have:=h1 k hkw hk;rw[decide_eq_true_eq]at this;omega
   ·exact g1
   ·have:=a1 w k c hk hkw;omega
 ·have d:decide ((w:Int) < (l.length:Int))=false:=by simp;omega
  simp only[d,cond_false];congr 1;symm;cases hh:inS l y with
  |false=>rfl
  |true=>
   obtain⟨s,hs,g1,g2⟩:=(qo _ _).1 hh;obtain⟨k,hk,rfl⟩:=mem_iff_getElem.1 hs;have:=h1 k (by omega) hk;rw[decide_eq_true_eq]at this;omega
theorem Mx {n:Nat} {l:List (List aD)} (hf:l.flatten.length < 1099511627776) (hl:l.length < 1099511627776) (hn:l.length < n):y8 n l=some l.flatten:=LG (aD.mk 0 0) (b:=16) hf (by omega) hl hn
theorem MB (l:List aD):(l.flatMap fun r=>[r.from_,r.to]).length=2*l.length:=by
 induction l with
 |nil=>rfl
 |cons x l ih=>simp only[List.flatMap_cons,length_append,ih,length_cons,length_nil];omega
theorem P7 {n:Nat} {l:List aD} (hl:l.length < 10995116277) (hn:l.length < n):iter (uR l) n ((0:Int),([]:List Int))=some (l.flatMap fun r=>[r.from_,r.to]):=by
 have:=dO (l:=l) (step:=uR l) (fun i (s:List Int)=>((i:Int),s)) (fun r s=>s++[r.from_,r.to]) (fun s=>s) (fun i s=>s.length<=2*i)
  (fun i hi s hs=>?_) (fun s hs=>by simp[uR]) n hn [] (Nat.le_refl _)
 ·rw[show ((0:Nat):Int)=0 from rfl]at this;rw[this];have gen:∀ (ys:List aD) (s:List Int),ys.foldl (fun s r=>s++[r.from_,r.to]) s=s++ys.flatMap fun r=>[r.from_,r.to]:=by
   intro ys
   induction ys with
   |nil=>intro s;simp
   |cons y ys ih=>intro s;simp[ih]
  congr 1;simpa using gen l []
 ·have hi':decide (((i:Nat):Int) < ((l.length:Nat):Int))=true:=by simpa using hi
  have ap:aX s.length s.length (sub ([l[i].from_,l[i].to]:List Int) 0 2).length 2 8=true:=aU (n:=2) (by omega) (by simp only[maxLen];omega);simp only[uR,hi',cond_true,aZ hi,dD hi,bind_some,ap,bG,aA];refine⟨?_,by simp;omega⟩;rw[aC (by omega)];rfl
theorem Km {α β:Type} (p:α->Bool) (f:β->α->β):∀ (l:List α) (s:β),(l.filter p).foldl f s=l.foldl (fun s x=>bif p x then f s x else s) s
 |[],s=>rfl
 |x::l,s=>by
  rw[List.filter_cons,foldl_cons];cases h:p x with
  |true=>simp only[if_true,foldl_cons,cond_true];exact Km p f l _
  |false=>simp only[Bool.false_eq_true,if_false,cond_false];exact Km p f l _
theorem Tv (out:List aD) (p:aD):(ext out p).length<=out.length+1:=by
 unfold ext;cases out.getLast? with
 |none=>simp
 |some q=>simp only;cases q.to==p.from_<;>simp<;>omega
theorem Tw (a b:List aD):(ysL a b).length<=2*(a.length+b.length):=by
 have h:=kF (fC (fun a b=>decide (a < b)) ((a++b).flatMap fun r=>[r.from_,r.to]));rw[bD,MB,length_append]at h;exact h
theorem JL (keep:Bool->Bool->Bool) (a b:List aD):(fq keep a b).length<=2*(a.length+b.length):=by
 have gen:∀ (ys out:List aD),(ys.foldl ext out).length<=out.length+ys.length:=by
  intro ys
  induction ys with
  |nil=>intro out;simp
  |cons y ys ih=>
   intro out;simp only[foldl_cons,length_cons];have:=ih (ext out y);have:=Tv out y;omega
 have h:=gen ((dQ aD.mk (ysL a b)).filter fun p=>keep (inS a p.from_) (inS b p.from_)) [];have h2:=length_filter_le (fun p=>keep (inS a p.from_) (inS b p.from_)) (dQ aD.mk (ysL a b));have h3:=(j5 aD.mk (ysL a b)).1;have h4:=Tw a b;simp only[length_nil]at h;unfold fq;omega
theorem aau {n:Nat} {keep:Bool->Bool->Bool} {φ:(Bool×Bool×Unit)->Option Bool} (hφ:∀ p q,φ (p,q,())=some (keep p q)) {a b:List aD} (ha:Can a) (hb:Can b) (hl:a.length+b.length < 1099511627) (hn:2*(a.length+b.length)+2 < n):G9 n a b φ=some (fq keep a b):=by
 have fl:[a,b].flatten=a++b:=by simp
 have s2:(sub ([a,b]:List (List aD)) 0 2)=[a,b]:=rfl;have q2:eqL ([a,b]:List (List aD)).length 2=true:=rfl;have hys:=Tw a b;have hfl:((a++b).flatMap fun r=>[r.from_,r.to]).length=2*(a.length+b.length):=by rw[MB,length_append]
 unfold G9;rw[s2,q2,cond_true,Mx (by rw[fl,length_append];omega) (by simp) (by simp;omega),fl];simp only[bind_some,length_nil,aA,cond_true,P7 (l:=a++b) (n:=n) (by rw[length_append];omega) (by rw[length_append];omega)];rw[jF (by rw[hfl];omega) (by rw[hfl];omega)];simp only[bind_some,bD,aA,cond_true];rw[iZ (by rw[bD,hfl];omega) (by rw[bD,hfl];omega)];simp only[bind_some];have hE:dN (fC ltI ((a++b).flatMap fun r=>[r.from_,r.to]))=ysL a b:=rfl;rw[hE];obtain⟨p1,p2⟩:=j5 aD.mk (ysL a b);have key:iter (uS n a b φ ((),ysL a b)) n ((1:Int),([]:List aD))=some (fq keep a b):=by
  have:=dO (l:=dQ aD.mk (ysL a b)) (step:=uS n a b φ ((),ysL a b)) (fun i (s:List aD)=>(((i+1:Nat):Int),s)) (fun p s=>bif keep (inS a p.from_) (inS b p.from_)then ext s p else s) (fun s=>s) (fun i s=>s.length<=i)
   (fun i hi s hs=>?_) (fun s hs=>?_) n (by omega) [] (Nat.le_refl _)
  ·rw[show ((0+1:Nat):Int)=1 from rfl]at this;rw[this,fq,Km]
  ·have hi2:i+1 < (ysL a b).length:=(by omega);have hi1:i < (ysL a b).length:=(by omega);have d:decide (((i+1:Nat):Int) < (((ysL a b).length:Nat):Int))=true:=(by simp;omega);have wp:i64.wrap (((i+1:Nat):Int) - 1)=((i:Nat):Int):=(by rw[dJ (by omega) (by omega)];rfl);have pe:(dQ aD.mk (ysL a b))[i]=aD.mk (ysL a b)[i] (ysL a b)[i+1]:=p2 i hi2 hi;rw[pe];have lx:=Tv s (aD.mk (ysL a b)[i] (ysL a b)[i+1]);have ap:aX s.length s.length (sub ([(aD.mk (ysL a b)[i] (ysL a b)[i+1])]:List aD) 0 1).length 1 16=true:=aU (n:=1) (by omega) (by simp only[maxLen];omega);have sb:(sub ([(aD.mk (ysL a b)[i] (ysL a b)[i+1])]:List aD) 0 1)=[aD.mk (ysL a b)[i] (ysL a b)[i+1]]:=rfl;refine⟨?_,by cases keep (inS a (ysL a b)[i]) (inS b (ysL a b)[i])<;>simp only[cond_true,cond_false]<;>omega⟩;simp only[uS,d,cond_true,wp,aZ hi1,dD hi1,bind_some,Mw (n:=n) ha (show a.length < 1099511627776 by omega) (show a.length < n by omega),Mw (n:=n) hb (show b.length < 1099511627776 by omega) (show b.length < n by omega),hφ];cases hk:keep (inS a (ysL a b)[i]) (inS b (ysL a b)[i])with
   |false=>
    simp only[Bool.not_false,cond_true,aA,bind_some,cond_false];rw[aC (by omega)]
   |true=>
    simp only[Bool.not_true,cond_false,cond_true];rcases List.eq_nil_or_concat s with rfl |⟨s0,q,hsq⟩
    ·have d0:decide (((([]:List aD).length:Nat):Int)>0)=false:=(by simp);simp only[d0,cond_false,bind_some,aZ hi2,dD hi2,cond_true,ap,bG,aA];rw[aC (by omega)];rfl
    ·rw[List.concat_eq_append]at hsq;subst hsq;have d0:decide (((((s0++[q]).length:Nat):Int))>0)=true:=(by simp<;>omega);have lenq:(s0++[q]).length=s0.length+1:=(by simp);have wq:i64.wrap ((((s0++[q]).length:Nat):Int) - 1)=((s0.length:Nat):Int):=(by rw[dJ (by simp) (by omega),lenq];rfl);have ib2:inb ((s0.length:Nat):Int) (s0++[q]).length=true:=aZ (by omega);have g:at? (s0++[q]) (((0:Nat):Int)+((s0.length:Nat):Int))=some q:=(by rw[dR];simp);have z:(((0:Nat):Int)+((s0.length:Nat):Int)).toNat=s0.length:=(by simp);have st:(s0++[q]).set s0.length (aD.mk q.from_ (ysL a b)[i+1])=s0++[⟨q.from_,(ysL a b)[i+1]⟩]:=(by simp);simp only[d0,cond_true,wq,ib2,g,bind_some,Tp];cases hj:q.to==(ysL a b)[i]with
     |true=>
      simp only[cond_true,aZ hi2,dD hi2,bind_some,z,st];have e:eqL (s0++[q]).length (s0++[(⟨q.from_,(ysL a b)[i+1]⟩:aD)]).length=true:=(by simp);simp only[e,cond_true,bind_some,aA];rw[aC (by omega)]
     |false=>
      rw[sb]at ap;simp only[cond_false,aZ hi2,dD hi2,bind_some,cond_true,sb,ap,bG,aA];rw[aC (by omega)]
  ·have d:decide ((((dQ aD.mk (ysL a b)).length+1:Nat):Int) < (((ysL a b).length:Nat):Int))=false:=(by simp;omega);simp only[uS,d,cond_false,aA,cond_true]
 rw[key];simp only[bind_some,aV,aA,cond_true]
theorem Dq (keep:Bool->Bool->Bool) (a b:List aj):gq keep a b=(aG (a++b)).map fun s=>⟨s.x0,s.x1,fq keep (aO a s.x0) (aO b s.x0)⟩:=by
 have gen:∀ es:List Int,dQ (fun x x'=>(⟨x,x',fq keep (aO a x) (aO b x)⟩:aM)) es=(dQ (fun x x'=>(⟨x,x',aO (a++b) x⟩:aM)) es).map fun s=>⟨s.x0,s.x1,fq keep (aO a s.x0) (aO b s.x0)⟩:=by
  intro es
  match es with
  |[]=>rfl
  |[_]=>rfl
  |x::y::l=>
   rw[jc,jc,map_cons];congr 1;have:∀ es:List Int,dQ (fun x x'=>(⟨x,x',fq keep (aO a x) (aO b x)⟩:aM)) es=(dQ (fun x x'=>(⟨x,x',aO (a++b) x⟩:aM)) es).map fun s=>⟨s.x0,s.x1,fq keep (aO a s.x0) (aO b s.x0)⟩:=by
    intro es
    induction es with
    |nil=>rfl
    |cons x es ih=>
     cases es with
     |nil=>rfl
     |cons y es=>rw[jc,jc,map_cons,ih]
   exact this (y::l)
 exact gen (aJ (a++b))
theorem JM {n:Nat} {keep:Bool->Bool->Bool} {φ:(Bool×Bool×Unit)->Option Bool} (hφ:∀ p q,φ (p,q,())=some (keep p q)) {a b:List aj} (ha:a.length < 1099511627776) (hb:b.length < 1099511627776) (hna:a.length < n) (hnb:b.length < n) (hn:1000<=n):y9 n a b φ=some (fT keep a b):=by
 unfold y9 fT;rw[lV ha hna hn,bind_some];cases hra:bH a with
 |false=>rfl
 |true=>
  rw[lV hb hnb hn];simp only[Bool.not_true,cond_false,bind_some,Bool.true_and];cases hrb:bH b with
  |false=>rfl
  |true=>
   obtain⟨a1,a2,_⟩:=bZ hra;obtain⟨b1,b2,_⟩:=bZ hrb;have fa:[a].flatten=a:=(by simp);have fb:[b].flatten=b:=(by simp);have fab:[a,b].flatten=a++b:=(by simp);have hab:∀ r∈a++b,OkR r=true:=fun r hr=>by
    rcases mem_append.1 hr with hr |hr
    ·exact a1 r hr
    ·exact b1 r hr
   have sa:iJ n [a]=some (aG a):=by
    have:=qw (n:=n) (ls:=[a]) (by rw[fa];exact a1) (by rw[fa];omega) (by simp) (by rw[fa];omega) (by simp;omega)
    rwa [fa]at this
   have sb:iJ n [b]=some (aG b):=by
    have:=qw (n:=n) (ls:=[b]) (by rw[fb];exact b1) (by rw[fb];omega) (by simp) (by rw[fb];omega) (by simp;omega)
    rwa [fb]at this
   have lab:(a++b).length=a.length+b.length:=length_append;have sab:iJ n [a,b]=some (aG (a++b)):=by
    have:=qw (n:=n) (ls:=[a,b]) (by rw[fab];exact hab) (by rw[fab,lab];omega) (by simp) (by rw[fab,lab];omega) (by simp;omega)
    rwa [fab]at this
   have e1:(sub ([a]:List (List aj)) 0 1)=[a]:=rfl;have e2:(sub ([b]:List (List aj)) 0 1)=[b]:=rfl;have e3:(sub ([a,b]:List (List aj)) 0 2)=[a,b]:=rfl;have q1:eqL ([a]:List (List aj)).length 1=true:=rfl;have q2:eqL ([b]:List (List aj)).length 1=true:=rfl;have q3:eqL ([a,b]:List (List aj)).length 2=true:=rfl;have la:=lU a;have lb:=lU b;have lS:=lU (a++b);rw[lab]at lS;have mc:∀ x,(aO a x).length<=200∧(aO b x).length<=200:=fun x=>⟨Nat.le_trans (jG a x) a2,Nat.le_trans (jG b x) b2⟩;have lm:∀ x,(fq keep (aO a x) (aO b x)).length<=800:=fun x=>by
    have:=JL keep (aO a x) (aO b x);have:=mc x;omega
   have key:iter (nJ n φ (aG a) (aG b) (aG (a++b))) n ((0:Int),aG (a++b))=some (gq keep a b):=by
    have:=dm (step:=nJ n φ (aG a) (aG b) (aG (a++b))) (fun i=>(((i:Nat):Int),(gq keep a b).take i++(aG (a++b)).drop i)) (aG (a++b)).length (gq keep a b) (fun i hi=>?_) ?_ n (by omega)
    ·simpa using this
    ·have d:decide (((i:Nat):Int) < (((aG (a++b)).length:Nat):Int))=true:=(by simpa using hi);have lc:(gq keep a b).length=(aG (a++b)).length:=(by rw[Dq,length_map]);have lt:((gq keep a b).take i).length=i:=(by rw[length_take];omega);have hd:(aG (a++b)).drop i=(aG (a++b))[i]::(aG (a++b)).drop (i+1):=List.drop_eq_getElem_cons hi;have g:at? ((gq keep a b).take i++(aG (a++b)).drop i) (((0:Nat):Int)+((i:Nat):Int))=some (aG (a++b))[i]:=(by rw[dR,List.getElem?_append_right (by omega),lt,hd];simp);have st:∀ s:aM,((gq keep a b).take i++(aG (a++b)).drop i).set i s=(gq keep a b).take i++s::(aG (a++b)).drop (i+1):=by
      intro s;rw[List.set_append_right _ _ (by omega),lt,hd,Nat.sub_self];rfl
     have z:(((0:Nat):Int)+((i:Nat):Int)).toNat=i:=(by simp);have tk:(gq keep a b).take (i+1)=(gq keep a b).take i++[⟨(aG (a++b))[i].x0,(aG (a++b))[i].x1,fq keep (aO a (aG (a++b))[i].x0) (aO b (aG (a++b))[i].x0)⟩]:=by
      rw[take_succ_eq_append_getElem (by omega)];congr 2;simp only[Dq,List.getElem_map]
     have hm:=mc (aG (a++b))[i].x0;have mg:G9 n (aO a (aG (a++b))[i].x0) (aO b (aG (a++b))[i].x0) φ=some (fq keep (aO a (aG (a++b))[i].x0) (aO b (aG (a++b))[i].x0)):=
      aau hφ (dS a1 _).1 (dS b1 _).1 (by omega) (by omega)
     have at1:Te n (aG a) (aG (a++b))[i].x0=some (aO a (aG (a++b))[i].x0):=(by rw[aat (jI a) (by omega) (by omega),kT]);have at2:Te n (aG b) (aG (a++b))[i].x0=some (aO b (aG (a++b))[i].x0):=(by rw[aat (jI b) (by omega) (by omega),kT]);simp only[nJ,d,cond_true,aZ hi,g,bind_some,aV,at1,at2,mg,aA,z,st];rw[aC (by omega),tk,append_assoc];rfl
    ·have lc:(gq keep a b).length=(aG (a++b)).length:=(by rw[Dq,length_map]);have d:decide ((((aG (a++b)).length:Nat):Int) < (((aG (a++b)).length:Nat):Int))=false:=(by simp);simp only[nJ,d,cond_false,List.drop_length,append_nil];rw[List.take_of_length_le (by omega)]
   have lc:(gq keep a b).length=(aG (a++b)).length:=(by rw[Dq,length_map]);have cc:∀ s∈gq keep a b,s.column.length<=800:=by
    intro s hs;rw[Dq,mem_map]at hs;obtain⟨t,_,rfl⟩:=hs;exact lm _
   have sl:sub (gq keep a b) 0 (aG (a++b)).length=gq keep a b:=(by rw[<- lc,aV]);simp only[Bool.not_true,cond_false,e1,e2,e3,q1,q2,q3,cond_true,sa,sb,sab,bind_some,aV,aA,key,sl,lc];rw[Hq (b:=800) (by omega) (by omega) cc (by omega) (by omega)];simp only[bind_some,aV,aA,cond_true,yZ,if_true,Bool.and_self];by_cases h200:(aT (gq keep a b)).length>200
   ·have:decide (((aT (gq keep a b)).length:Int)>200)=true:=(by simp;omega);simp only[this,cond_true,bind_some,h200,if_true]
   ·have:decide (((aT (gq keep a b)).length:Int)>200)=false:=(by simp;omega);simp only[this,cond_false,bind_some,h200,if_false]
theorem Yh {n:Nat} {a b:List aj} (ha:a.length < 1099511627776) (hb:b.length < 1099511627776) (hna:a.length < n) (hnb:b.length < n) (hn:1000<=n):IB n a b=some (fT (fun p q=>p&&q) a b):=by
 unfold IB;rw[JM (keep:=fun p q=>p&&q) (fun p q=>by show xH p q=_;unfold xH;cases p<;>rfl) ha hb hna hnb hn];rfl
theorem aav {n:Nat} {a b:List aj} (ha:a.length < 1099511627776) (hb:b.length < 1099511627776) (hna:a.length < n) (hnb:b.length < n) (hn:1000<=n):Md n a b=some (fT (fun p q=>p&&!q) a b):=by
 unfold Md;rw[JM (keep:=fun p q=>p&&!q) (fun p q=>by show AZ p q=_;unfold AZ;cases p<;>rfl) ha hb hna hnb hn];rfl
theorem MC {keep:Bool->Bool->Bool} (a b:List aj):(fT keep a b).1.length<=200:=by
 unfold fT;split
 ·split
  ·simp
  ·show (aT _).length<=200;omega
 ·simp
def NT (a b:aj):Int:=bif (!OkR a || !OkR b)then -1 else max (max 0 (i64.wrap ((max a.x0 b.x0) - (min a.x1 b.x1)))) (i64.wrap ((max a.y0 b.y0) - (min a.y1 b.y1)))
theorem ag1 (a b:aj):ad4 a b=some (NT a b):=by
 unfold ad4 NT;rw[rV,rV];simp only[bind_some];cases OkR a<;>cases OkR b<;>rfl
def Jf (a b:List aj):Int×Bool:=
 bif (decide (a=[]) || (decide (b=[]) || (!bH a || !bH b)))then (0,false)else (a.foldl (fun m x=>b.foldl (fun m y=>min m (NT x y)) m) 1048576,true)
theorem Vg {n:Nat} {b:List aj} (hb:b.length < 1099511627776) (hn:b.length < n) (x:aj) (m:Int):iter (Di b x) n (m,(0:Int))=some (b.foldl (fun m y=>min m (NT x y)) m):=by
 have:=CY (l:=b) (step:=Di b x) (fun i (s:Int)=>(s,((i:Nat):Int))) (fun y m=>min m (NT x y)) (fun s=>s) (fun i hi s=>?_) (fun s=>by simp[Di]) n hn m
 ·exact this
 ·have hi':decide (((i:Nat):Int) < (b.length:Int))=true:=by simpa using hi
  simp only[Di,hi',cond_true,aQ hi,bind_some,ag1];rw[aC (by omega)]
theorem ae2 {n:Nat} {a b:List aj} (ha:a.length<=900) (hb:b.length<=900) (hn:1000<=n):Tg n a b=some (Jf a b):=by
 unfold Tg Jf;have z:∀ l:List aj,(((l.length:Int))==0)=decide (l=[]):=fun l=>by cases l<;>simp<;>omega
 rw[z a,z b,lV (by omega) (by omega) hn,lV (by omega) (by omega) hn];have loop:(iter (Dj n a b) n ((1048576:Int),(0:Int)))=some (a.foldl (fun m x=>b.foldl (fun m y=>min m (NT x y)) m) 1048576):=by
  have:=CY (l:=a) (step:=Dj n a b) (fun i (s:Int)=>(s,((i:Nat):Int))) (fun x m=>b.foldl (fun m y=>min m (NT x y)) m) (fun s=>s) (fun i hi s=>?_) (fun s=>by simp[Dj]) n (by omega) 1048576
  ·exact this
  ·have hi':decide (((i:Nat):Int) < (a.length:Int))=true:=(by simpa using hi);simp only[Dj,hi',cond_true,aQ hi,bind_some];rw[Vg (by omega) (by omega),bind_some,aC (by omega)]
 simp only[bind_some,loop];cases decide (a=[])<;>cases decide (b=[])<;>cases bH a<;>cases bH b<;>rfl
def dw:ax:=ax.mk 0 0 [] []
def aI (land:List ax) (id:Int):ax×Bool:=match land.find? fun t=>t.id==id with
 |some t=>(t,true)
 |none=>(dw,false)
abbrev dx (t:ax):Prop:=t.area.length<=900∧t.from_.length<=900
theorem Pn {t:ax} (h:dx t):uP t=some t:=by
 unfold uP;rw[rR (by omega),bind_some,FN (by omega),bind_some];simp only[aV,aA,cond_true]
theorem ER {α:Type} (p:α->Bool) (l:List α):(∃ (i:Nat) (h:i < l.length),fI p l=some i∧l.find? p=some l[i])∨(fI p l=none∧l.find? p=none):=by
 rcases ji p l with ⟨i,hi,h1,h2,h3⟩ |⟨h1,h2⟩
 ·refine .inl ⟨i,hi,h1,?_⟩;rw[List.find?_eq_some_iff_getElem];exact⟨h2,i,hi,rfl,fun j hj=>by simpa using h3 j hj⟩
 ·refine .inr ⟨h1,?_⟩;rw[List.find?_eq_none];intro x hx;rw[h2 x hx];simp
theorem zF {n:Nat} {land:List ax} {id:Int} (h:∀ t∈land,dx t) (hl:land.length < 1099511627776) (hn:land.length < n):AY n land id=some (aI land id):=by
 unfold AY;have:=bX (l:=land) (step:=EG land id) (fun i=>(i:Int)) (fun t=>t.id==id) () (fun i=>(land.getD i dw,true)) (fun i hi=>?_) ?_ n hn
 ·rw[show ((0:Nat):Int)=0 from rfl]at this;rw[this];unfold aI;rcases ER (fun t:ax=>t.id==id) land with ⟨i,hi,h1,h2⟩ |⟨h1,h2⟩
  ·rw[h1,h2];simp[hi]
  ·rw[h1,h2];rfl
 ·have hi':decide (((i:Nat):Int) < (land.length:Int))=true:=by simpa using hi
  simp only[EG,hi',cond_true,aQ hi,bind_some,Pn (h _ (getElem_mem hi))];cases land[i].id==id with
  |true=>simp[hi]
  |false=>simp only[cond_false];rw[aC (by omega)]
 ·simp[EG]
theorem lW {land:List ax} (h:∀ t∈land,dx t) (id:Int):dx (aI land id).1:=by
 unfold aI;split
 ·rename_i t ht;exact h t (List.mem_of_find?_eq_some ht)
 ·simp[dx,dw]
def wG (t:ax) (id d:Int) (u:ax):Bool:=(Jf t.area u.area).2&&(decide ((Jf t.area u.area).1<=d)&&(u.id != id))
def jd (land:List ax) (t:ax) (id d:Int):List Int:=(land.filter fun u=>wG t id d u).map (·.id)
def FP (land:List ax) (id d:Int):List Int:=
 bif (aI land id).2 then kV (jd land (aI land id).1 id d)else []
theorem Tx {n:Nat} {land:List ax} (hl:land.length < 10995116277) (hn:land.length < n):iter (zq land) n ((0:Int),([]:List (List aj)))=some (land.map (·.area)):=by
 have:=dm (step:=zq land) (fun i=>(((i:Nat):Int),(land.take i).map (·.area))) land.length (land.map (·.area)) (fun i hi=>?_) ?_ n hn
 ·simpa using this
 ·have hi':decide (((i:Nat):Int) < (land.length:Int))=true:=by simpa using hi
  have ap:aX ((land.take i).map (·.area)).length ((land.take i).map (·.area)).length (sub ([land[i].area]:List (List aj)) 0 1).length 1 24=true:=by
   refine aU (n:=1) ?_ ?_
   ·rw[length_map,length_take];omega
   ·rw[length_map,length_take];simp only[maxLen];omega
  simp only[zq,hi',cond_true,aQ hi,bind_some,ap,bG,aA];rw[aC (by omega),take_succ_eq_append_getElem hi,List.map_append];rfl
 ·simp[zq]
theorem Ty {n:Nat} {land:List ax} {id d:Int} (h:∀ t∈land,dx t) (hl:land.length<=100) (hn:1000<=n):EH n land id d=some (FP land id d):=by
 unfold EH FP;rw[zF h (by omega) (by omega)];simp only[bind_some];cases hf:(aI land id).2 with
 |false=>rfl
 |true=>
  have ht:=lW h id;simp only[Bool.not_true,cond_false,length_nil,aA,cond_true,Tx (land:=land) (n:=n) (by omega) (by omega),bind_some];have key:iter (zu n land id d (aI land id) (land.map (·.area))) n ((0:Int),([]:List Int))=some (jd land (aI land id).1 id d):=by
   have:=dO (l:=land) (step:=zu n land id d (aI land id) (land.map (·.area))) (fun i (s:List Int)=>(((i:Nat):Int),s)) (fun u s=>bif wG (aI land id).1 id d u then s++[u.id]else s) (fun s=>s) (fun i s=>s.length<=i)
    (fun i hi s hs=>?_) (fun s hs=>by simp[zu]) n (by omega) [] (Nat.le_refl _)
   ·rw[show ((0:Nat):Int)=0 from rfl]at this;rw[this];have gen:∀ (ys:List ax) (s:List Int),ys.foldl (fun s u=>bif wG (aI land id).1 id d u then s++[u.id]else s) s=s++jd ys (aI land id).1 id d:=by
     intro ys
     induction ys with
     |nil=>intro s;simp[jd]
     |cons y ys ih=>
      intro s;simp only[foldl_cons,ih,jd];cases hy:wG (aI land id).1 id d y<;>simp[hy]
    rw[gen];simp
   ·have hlm:(land.map (·.area)).length=land.length:=(by simp);have hi':decide (((i:Nat):Int) < (((land.map (·.area)).length:Nat):Int))=true:=(by rw[hlm];simpa using hi);have ib:inb ((i:Nat):Int) (land.map (·.area)).length=true:=aZ (by omega);have g:at? (land.map (·.area)) (((0:Nat):Int)+((i:Nat):Int))=some land[i].area:=(by rw[dR];simp[hi]);have hu:=h _ (getElem_mem hi);have ap:aX s.length s.length (sub ([land[i].id]:List Int) 0 1).length 1 8=true:=aU (n:=1) (by omega) (by simp only[maxLen];omega);have gp:Tg n (aI land id).1.area land[i].area=some (Jf (aI land id).1.area land[i].area):=ae2 ht.1 hu.1 hn;simp only[zu,hi',cond_true,ib,g,bind_some,gp,aQ hi];have e:((bif (Jf (aI land id).1.area land[i].area).2 then (bif (decide ((Jf (aI land id).1.area land[i].area).1<=d))then some (land[i].id != id)else some false)else some false):Option Bool)=some (wG (aI land id).1 id d land[i]):=by
     unfold wG;cases (Jf (aI land id).1.area land[i].area).2<;>cases decide ((Jf (aI land id).1.area land[i].area).1<=d)<;>rfl
    rw[e];simp only[bind_some];cases wG (aI land id).1 id d land[i]with
    |true=>
     simp only[cond_true,ap,bG,aA,bind_some];refine⟨?_,by simp;omega⟩;rw[aC (by omega)];rfl
    |false=>
     simp only[cond_false,aA,cond_true,bind_some];exact⟨by rw[aC (by omega)],by omega⟩
  have hlen:(jd land (aI land id).1 id d).length<=100:=by
   unfold jd;rw[length_map];exact Nat.le_trans (length_filter_le _ _) hl
  rw[key];simp only[bind_some,aA,cond_true];rw[jF (by omega) (by omega)];simp only[bind_some,bD,aA,cond_true];rw[iZ (by rw[bD];omega) (by rw[bD];omega)];simp only[bind_some,aV,aA,cond_true];rfl
def ag2:List ByteArray:=[⟨#[104,111,109,101]⟩,⟨#[115,104,111,112]⟩,⟨#[119,111,114,107]⟩,⟨#[112,97,114,107]⟩,⟨#[112,108,97,110,116]⟩,⟨#[104,97,108,108]⟩]
def nameOf (use:Int):Option ByteArray:=at? ag2 use
theorem je (l:List Int):(kV l).length<=l.length:=by
 unfold kV;have:=kF (fC (fun a b=>decide (a < b)) l)
 rwa [bD]at this
theorem Yi (land:List ax) (id d:Int):(FP land id d).length<=land.length:=by
 unfold FP;cases (aI land id).2 with
 |true=>
  refine Nat.le_trans (je _) ?_;unfold jd;rw[length_map];exact length_filter_le _ _
 |false=>simp
theorem ah2 (l:List Int) (a:Int):(l.any fun x=>x==a)=decide (a∈l):=by
 rw[Bool.eq_iff_iff];simp
def gxR (a b:aj):Int:=i64.wrap ((max a.x0 b.x0) - (min a.x1 b.x1))
def gyR (a b:aj):Int:=i64.wrap ((max a.y0 b.y0) - (min a.y1 b.y1))
def touchR (a b:aj):Bool:=(OkR a&&OkR b)&&((gxR a b==0&&decide (gyR a b < 0)) || (gyR a b==0&&decide (gxR a b < 0)))
theorem acA (a b:aj):QH a b=some (touchR a b):=by
 unfold QH Yb touchR;rw[rV,rV];simp only[bind_some];cases OkR a<;>cases OkR b<;>simp only[Bool.not_true,Bool.not_false,cond_true,cond_false,bind_some,Bool.and_self,Bool.false_and,Bool.and_false,Bool.true_and];show (bif gxR a b==0 then (bif decide (gyR a b < 0)then some true else (bif gyR a b==0 then some (decide (gxR a b < 0))else some false))else (bif gyR a b==0 then some (decide (gxR a b < 0))else some false))=_;cases gxR a b==0<;>cases decide (gyR a b < 0)<;>cases gyR a b==0<;>simp
theorem Hz {part:List aj} {i:Nat} (hi:i < part.length) (hl:part.length < 1099511627) (x:aj):
 lI x (i:Int) part=some (touchR part[i] x,(i:Int),bif touchR part[i] x then part++[x]else part):=by
 unfold lI;have ap:aX part.length part.length (sub ([x]:List aj) 0 1).length 1 32=true:=aU (n:=1) (by omega) (by simp only[maxLen];omega);rw[aZ hi,dD hi];simp only[cond_true,bind_some,acA,ap,bG,aA];cases touchR part[i] x<;>rfl
theorem P8 {n:Nat} {l part:List aj} {i:Nat} (hi:i < part.length) (hp:part.length < 1099511627) (hl:l.length < 1099511627) (hn:l.length < n):
 iV n l (i:Int) part=some (match fI (fun x=>touchR part[i] x) l with
  |some k=>((k:Int),(i:Int),part++[l.getD k (aj.mk 0 0 0 0)])
  |none=>(-1,(i:Int),part)):=by
 unfold iV;have:=bX (l:=l) (step:=fV l) (fun k=>(((k:Nat):Int),(i:Int),part)) (fun x=>touchR part[i] x) ((i:Int),part) (fun k=>((k:Int),(i:Int),part++[l.getD k (aj.mk 0 0 0 0)])) (fun k hk=>?_) ?_ n hn
 ·rw[show ((0:Nat):Int)=0 from rfl]at this;rw[this,aA];cases fI (fun x=>touchR part[i] x) l with
  |none=>simp
  |some k=>simp
 ·have hk':decide (((k:Nat):Int) < (l.length:Int))=true:=by simpa using hk
  simp only[fV,hk',cond_true,aQ hk,bind_some,aA,Hz hi hp];cases touchR part[i] l[k]with
  |true=>simp[hk]
  |false=>simp only[cond_false];rw[aC (by omega)]
 ·simp[fV]
structure DelI (full:List aj) (off:Nat) (p:aj) (part:List aj) (j w:Nat) (arr prt:List aj):Prop where
 len:arr.length=full.length
 pre:arr.take (off+w)=full.take off++((full.drop off).take j).filter fun x=>!touchR p x
 post:arr.drop (off+j)=full.drop (off+j)
 wl:w=(((full.drop off).take j).filter fun x=>!touchR p x).length
 prt:prt=part++((full.drop off).take j).filter fun x=>touchR p x
theorem DelI.wle {full:List aj} {off:Nat} {p:aj} {part:List aj} {j w:Nat} {arr prt:List aj} (h:DelI full off p part j w arr prt):w<=j:=by
 rw[h.wl];exact Nat.le_trans (length_filter_le _ _) (by rw[length_take];omega)
theorem DelI.step {full:List aj} {off:Nat} {p:aj} {part:List aj} {j w:Nat} {arr prt:List aj} (h:DelI full off p part j w arr prt) (hj:off+j < full.length):
 (touchR p full[off+j]=true->DelI full off p part (j+1) w arr (prt++[full[off+j]]))∧(touchR p full[off+j]=false->DelI full off p part (j+1) (w+1) (arr.set (off+w) full[off+j]) prt):=by
 have hw:=h.wle;have ht:(full.drop off).take (j+1)=(full.drop off).take j++[full[off+j]]:=by rw[take_succ_eq_append_getElem (by rw[length_drop];omega),getElem_drop]
 have hpost:∀ arr':List aj,arr'.drop (off+j)=full.drop (off+j)->arr'.drop (off+(j+1))=full.drop (off+(j+1)):=fun arr' hh=>by
  have:=congrArg (List.drop 1) hh;rw[List.drop_drop,List.drop_drop]at this;exact this
 constructor
 ·intro hx;refine⟨h.len,?_,hpost _ h.post,?_,?_⟩
  ·rw[ht,filter_append];simp[hx,h.pre]
  ·rw[ht,filter_append];simp[hx,<- h.wl]
  ·rw[ht,filter_append];simp[hx,h.prt]
 ·intro hx;have hlt:off+w < arr.length:=by rw[h.len];omega
  refine⟨by rw[List.length_set];exact h.len,?_,?_,?_,?_⟩
  ·rw[ht,filter_append,show off+(w+1)=(off+w)+1 by omega,take_succ_eq_append_getElem (by rw[List.length_set];exact hlt),List.take_set_of_le (Nat.le_refl _),h.pre];simp[hx]
  ·refine hpost _ ?_;rcases Nat.lt_or_ge w j with hwj |hwj
   ·rw[List.drop_set_of_lt (by omega)];exact h.post
   ·have:w=j:=(by omega);subst this;rw[List.drop_set,if_neg (by omega),h.post];simp only[Nat.sub_self];rw[List.drop_eq_getElem_cons hj];rfl
  ·rw[ht,filter_append];simp[hx,<- h.wl]
  ·rw[ht,filter_append];simp[hx,h.prt]
theorem aaw {α:Type} {p:α->Bool}:∀ {l:List α} {k:Nat},fI p l=some k->∃ h:k < l.length,p l[k]=true∧(l.take k).filter p=[]∧(l.take k).filter (fun x=>!p x)=l.take k:=by
 intro l k h;rcases ji p l with ⟨i,hi,h1,h2,h3⟩ |⟨h1,_⟩
 ·rw[h]at h1;injection h1 with h1;subst h1;have hall:∀ x∈l.take k,p x=false:=by
   intro x hx;obtain⟨j,hj,rfl⟩:=mem_iff_getElem.1 hx;rw[List.getElem_take];exact h3 j (by rw[length_take]at hj;omega)
  exact⟨hi,h2,List.filter_eq_nil_iff.2 fun x hx=>by simp[hall x hx],List.filter_eq_self.2 fun x hx=>by simp[hall x hx]⟩
 ·rw[h]at h1;cases h1
theorem NU {n:Nat} {full part:List aj} {off i:Nat} (ho:off<=full.length) (hi:i < part.length) (hp:part.length+full.length < 109951162) (hn:full.length < n):
 iD n (off:Int) full (i:Int) part=some ((off:Int),full.take off++(full.drop off).filter (fun x=>!touchR part[i] x),(i:Int),part++(full.drop off).filter fun x=>touchR part[i] x):=by
 unfold iD;have e1:sub full off (full.length - off)=full.drop off:=by simp[sub,List.take_of_length_le]
 simp only[Int.toNat_natCast,e1,length_drop,aA,cond_true];rw[P8 hi (by omega) (by rw[length_drop];omega) (by rw[length_drop];omega),bind_some];cases hf:fI (fun x=>touchR part[i] x) (full.drop off)with
 |none=>
  have hno:∀ x∈full.drop off,touchR part[i] x=false:=by
   rcases ji (fun x=>touchR part[i] x) (full.drop off)with ⟨k,hk,h1,_⟩ |⟨_,h2⟩
   ·rw[hf]at h1;cases h1
   ·exact h2
  have f1:(full.drop off).filter (fun x=>!touchR part[i] x)=full.drop off:=List.filter_eq_self.2 fun x hx=>by simp[hno x hx]
  have f2:(full.drop off).filter (fun x=>touchR part[i] x)=[]:=List.filter_eq_nil_iff.2 fun x hx=>by simp[hno x hx]
  have e2:off+(full.length - off)=full.length:=by omega
  simp only[beq_self_eq_true,cond_true,e2,aA,f1,f2,append_nil,List.take_append_drop]
 |some k=>
  obtain⟨hk,h2,h3,h4⟩:=aaw hf;rw[length_drop]at hk;rw[getElem_drop]at h2;have hkf:off+k < full.length:=by omega
  have e3:(full.drop off).getD k (aj.mk 0 0 0 0)=full[off+k]:=by rw[List.getD_eq_getElem?_getD,List.getElem?_drop,List.getElem?_eq_getElem hkf];rfl
  have e4:(((k:Nat):Int)== -1)=false:=by rw[beq_eq_false_iff_ne];omega
  simp only[e4,cond_false,aA,cond_true,e3];rw[aC (by omega)];have start:DelI full off part[i] part (k+1) k full (part++[full[off+k]]):=by
   refine⟨rfl,?_,rfl,?_,?_⟩
   ·have ht:(full.drop off).take (k+1)=(full.drop off).take k++[full[off+k]]:=(by rw[take_succ_eq_append_getElem (by rw[length_drop];omega),getElem_drop]);rw[ht,filter_append,h4];simp only[h2,Bool.not_true,List.filter_cons,Bool.false_eq_true,if_false,List.filter_nil,append_nil];rw[List.take_add]
   ·have ht:(full.drop off).take (k+1)=(full.drop off).take k++[full[off+k]]:=(by rw[take_succ_eq_append_getElem (by rw[length_drop];omega),getElem_drop]);rw[ht,filter_append,h4];simp[h2];omega
   ·have ht:(full.drop off).take (k+1)=(full.drop off).take k++[full[off+k]]:=(by rw[take_succ_eq_append_getElem (by rw[length_drop];omega),getElem_drop]);rw[ht,filter_append,h3];simp[h2]
  have loop:∀ (m j w:Nat) (arr prt:List aj) (n:Nat),j+m=full.length - off->m < n->DelI full off part[i] part j w arr prt->
   ∃ (w':Nat) (arr' prt':List aj),iter (bV (off:Int) full) n ((w:Int),(j:Int),arr,(i:Int),prt)=some ((w':Int),arr',(i:Int),prt')∧DelI full off part[i] part (full.length - off) w' arr' prt':=by
   intro m
   induction m with
   |zero=>
    intro j w arr prt n hm hn hd;obtain⟨n,rfl⟩:∃ q,n=q+1:=⟨n - 1,by omega⟩;have hj:j=full.length - off:=(by omega);subst hj;refine⟨w,arr,prt,aS ?_,hd⟩;simp[bV]
   |succ m ih=>
    intro j w arr prt n hm hn hd;obtain⟨n,rfl⟩:∃ q,n=q+1:=⟨n - 1,by omega⟩;have hjf:off+j < full.length:=(by omega);have hwj:=hd.wle;have hpl:prt.length<=part.length+full.length:=by
     rw[hd.prt,length_append];have:=length_filter_le (fun x=>touchR part[i] x) ((full.drop off).take j);rw[length_take,length_drop]at this;omega
    have hip:i < prt.length:=(by rw[hd.prt,length_append];omega);have hpi:prt[i]=part[i]:=by
     have:prt[i]? =part[i]? :=(by rw[hd.prt,List.getElem?_append_left hi]);rw[List.getElem?_eq_getElem hip,List.getElem?_eq_getElem hi]at this;exact Option.some.inj this
    have harr:arr[off+j]'(by rw[hd.len];exact hjf)=full[off+j]:=by
     have:=congrArg (fun l=>l[0]?) hd.post;simp only[List.getElem?_drop,Nat.add_zero]at this;rw[List.getElem?_eq_getElem hjf,List.getElem?_eq_getElem (by rw[hd.len];exact hjf)]at this;exact Option.some.inj this
    have c1:decide ((j:Int) < (((full.length - off:Nat):Int):Int))=true:=(by simp;omega);have at1:at? arr (((off:Nat):Int)+(j:Int))=some full[off+j]:=(by rw[show ((off:Int)+(j:Int))=((off+j:Nat):Int)by omega,SL,List.getElem?_eq_getElem (by rw[hd.len];exact hjf),harr]);have at2:∃ z,at? arr (((off:Nat):Int)+(w:Int))=some z:=by
     rw[show ((off:Int)+(w:Int))=((off+w:Nat):Int)by omega,SL];exact⟨_,List.getElem?_eq_getElem (by rw[hd.len];omega)⟩
    obtain⟨z,at2⟩:=at2;obtain⟨d1,d2⟩:=hd.step hjf;cases hx:touchR part[i] full[off+j]with
    |true=>
     have hs:bV (off:Int) full ((w:Int),(j:Int),arr,(i:Int),prt)=some (.inl ((w:Int),((j+1:Nat):Int),arr,(i:Int),prt++[full[off+j]])):=by
      simp only[bV,Int.toNat_natCast,c1,cond_true,adX,show decide (j < full.length - off)=true by simp;omega,at1,bind_some,aA,Hz hip (by omega),hpi,hx,Bool.not_true,cond_false];rw[aC (by omega)]
     rw[bf hs];exact ih (j+1) w arr _ n (by omega) (by omega) (d1 hx)
    |false=>
     have hs:bV (off:Int) full ((w:Int),(j:Int),arr,(i:Int),prt)=some (.inl (((w+1:Nat):Int),((j+1:Nat):Int),arr.set (off+w) full[off+j],(i:Int),prt)):=by
      simp only[bV,Int.toNat_natCast,c1,cond_true,adX,show decide (j < full.length - off)=true by simp;omega,at1,bind_some,aA,Hz hip (by omega),hpi,hx,Bool.not_false,cond_false,show decide (w < full.length - off)=true by simp;omega,at2];rw[aC (by omega),aC (by omega),show (((off:Nat):Int)+(w:Int)).toNat=off+w by omega]
     rw[bf hs];exact ih (j+1) (w+1) _ prt n (by omega) (by omega) (d2 hx)
  obtain⟨w',arr',prt',h5,h6⟩:=loop (full.length - off - (k+1)) (k+1) k full _ n (by omega) (by omega) start;rw[h5];have hwl:=h6.wle;have htk:(full.drop off).take (full.length - off)=full.drop off:=List.take_of_length_le (by rw[length_drop];exact Nat.le_refl _);have hpre:=h6.pre;have hprt:=h6.prt;rw[htk]at hpre hprt;have e5:(arr'.take (off+w')).length=off+w':=by rw[length_take,h6.len];omega
  have s1:oh (w':Int) ((full.length - off:Nat):Int) (full.length - off)=true:=kH (by omega) (by omega) (by omega);have s2:oh 0 (w':Int) (full.length - off)=true:=kH (by omega) (by omega) (by omega);rw[hpre]at e5;simp only[bind_some,s1,s2,cond_true,Int.toNat_natCast,hpre,e5,aA,hprt]
def iB:Nat->List aj->Nat->List aj->List aj×List aj
 | 0,part,_,left=>(part,left)
 |f+1,part,i,left=>match part[i]? with
  |none=>(part,left)
  |some p=>iB f (part++left.filter fun x=>touchR p x) (i+1) (left.filter fun x=>!touchR p x)
theorem Kn {α:Type} (p:α->Bool) (l:List α):(l.filter p).length+(l.filter fun x=>!p x).length=l.length:=by
 induction l with
 |nil=>rfl
 |cons x l ih=>cases h:p x<;>simp[h]<;>omega
theorem WR:∀ (f:Nat) (part left:List aj) (i:Nat),(iB f part i left).1.length+(iB f part i left).2.length=part.length+left.length
 | 0,_,_,_=>rfl
 |f+1,part,left,i=>by
  simp only[iB];split
  ·rfl
  ·rename_i p _;rw[WR f,length_append];have:=Kn (fun x=>touchR p x) left;omega
theorem aax:∀ (f:Nat) (part left:List aj) (i:Nat),part.length<=(iB f part i left).1.length
 | 0,_,_,_=>Nat.le_refl _
 |f+1,part,left,i=>by
  simp only[iB];split
  ·exact Nat.le_refl _
  ·exact Nat.le_trans (by rw[length_append];omega) (aax f _ _ _)
theorem Yj:∀ (m f n:Nat) (full part:List aj) (off i:Nat),off<=full.length->part.length+(full.length - off)=i+m->m < f->part.length+full.length < 109951162->full.length < n->∀ k,m < k->
 ∃ full',off<=full'.length∧full'.length<=full.length∧full'.drop off=(iB f part i (full.drop off)).2∧
   iter (lJ n) k ((off:Int),full,(i:Int),part)=some ((off:Int),full',(iB f part i (full.drop off)).1):=by
 intro m
 induction m with
 |zero=>
  intro f n full part off i ho hm hf hl hn k hk;obtain⟨k,rfl⟩:∃ q,k=q+1:=⟨k - 1,by omega⟩;obtain⟨f,rfl⟩:∃ q,f=q+1:=⟨f - 1,by omega⟩;have hi:part.length<=i:=by omega
  have hnone:part[i]? =none:=List.getElem?_eq_none hi;have e2:off+(full.length - off)=full.length:=by omega
  refine⟨full,ho,Nat.le_refl _,by simp only[iB,hnone],aS ?_⟩;have c:decide ((i:Int) < ((part.length:Nat):Int))=false:=by simp;omega
  simp only[lJ,c,cond_false,Int.toNat_natCast,e2,aA,cond_true,iB,hnone]
 |succ m ih=>
  intro f n full part off i ho hm hf hl hn k hk;obtain⟨k,rfl⟩:∃ q,k=q+1:=⟨k - 1,by omega⟩;obtain⟨f,rfl⟩:∃ q,f=q+1:=⟨f - 1,by omega⟩;have e2:off+(full.length - off)=full.length:=by omega
  by_cases hi:i < part.length
  ·have c:decide ((i:Int) < ((part.length:Nat):Int))=true:=(by simpa using hi);have ft:=Kn (fun x=>touchR part[i] x) (full.drop off);rw[length_drop]at ft;have hfull:(full.take off++(full.drop off).filter fun x=>!touchR part[i] x).length=off+((full.drop off).filter fun x=>!touchR part[i] x).length:=(by rw[length_append,length_take,Nat.min_eq_left ho]);have hdrop:(full.take off++(full.drop off).filter fun x=>!touchR part[i] x).drop off=(full.drop off).filter fun x=>!touchR part[i] x:=by
    have:(full.take off).length=off:=(by rw[length_take,Nat.min_eq_left ho]);rw[List.drop_append_of_le_length (by omega),List.drop_of_length_le (by omega),nil_append]
   have hs:lJ n ((off:Int),full,(i:Int),part)=some (.inl ((off:Int),full.take off++(full.drop off).filter (fun x=>!touchR part[i] x),((i+1:Nat):Int),part++(full.drop off).filter fun x=>touchR part[i] x)):=by
    simp only[lJ,c,cond_true,Int.toNat_natCast,e2,aA,NU ho hi hl hn,bind_some];rw[hfull,show off+(off+((full.drop off).filter fun x=>!touchR part[i] x).length - off)=off+((full.drop off).filter fun x=>!touchR part[i] x).length by omega,aA];simp only[cond_true];rw[aC (by omega)]
   rw[bf hs]
   obtain⟨full',h1,h1',h2,h3⟩:=ih f n (full.take off++(full.drop off).filter fun x=>!touchR part[i] x) (part++(full.drop off).filter fun x=>touchR part[i] x) off (i+1) (by rw[hfull];omega) (by rw[hfull,length_append];omega) (by omega)
    (by rw[hfull,length_append];omega) (by rw[hfull];omega) k (by omega)
   refine⟨full',h1,Nat.le_trans h1' (by rw[hfull];omega),?_,?_⟩
   ·rw[h2,hdrop];simp only[iB,List.getElem?_eq_getElem hi]
   ·rw[h3,hdrop];simp only[iB,List.getElem?_eq_getElem hi]
  ·have hnone:part[i]? =none:=List.getElem?_eq_none (by omega);refine⟨full,ho,Nat.le_refl _,by simp only[iB,hnone],aS ?_⟩;have c:decide ((i:Int) < ((part.length:Nat):Int))=false:=(by simp;omega);simp only[lJ,c,cond_false,Int.toNat_natCast,e2,aA,cond_true,iB,hnone]
def ES:Nat->List aj->List (List aj)
 | 0,_=>[]
 |_+1,[]=>[]
 |f+1,x::xs=>aT (aG (iB (xs.length+2) [x] 0 xs).1)::ES f (iB (xs.length+2) [x] 0 xs).2
def kg (a:List aj):List (List aj):=bif bH a then ES (a.length+1) a else []
theorem WS:∀ (f:Nat) (part left:List aj) (i:Nat) (r:aj),(r∈(iB f part i left).1∨r∈(iB f part i left).2)↔(r∈part∨r∈left)
 | 0,_,_,_,_=>Iff.rfl
 |f+1,part,left,i,r=>by
  simp only[iB];split
  ·exact Iff.rfl
  ·rename_i p _;rw[WS f,mem_append,mem_filter,mem_filter];cases h:touchR p r<;>simp
theorem Yk {n:Nat} (hn:1000<=n):∀ (f:Nat) (full:List aj) (off:Nat) (out:List (List aj)),(∀ r∈full.drop off,OkR r=true)->off<=full.length->full.length<=200->out.length+(full.length - off)<=200->full.length - off < f->∀ k,full.length - off < k->
 iter (uK n) k ((off:Int),full,out)=some (out++ES f (full.drop off)):=by
 intro f
 induction f with
 |zero=>intro full off out _ _ _ _ hf;omega
 |succ f ih=>
  intro full off out hv ho h6 hout hf k hk;obtain⟨k,rfl⟩:∃ q,k=q+1:=⟨k - 1,by omega⟩;by_cases h0:off < full.length
  ·have hd:full.drop off=full[off]::full.drop (off+1):=List.drop_eq_getElem_cons h0;have c:decide ((((full.length - off:Nat):Nat):Int)>0)=true:=(by simp;omega);have c2:inb 0 (full.length - off)=true:=(by have:=aZ (i:=0) (n:=full.length - off) (by omega);simpa using this);have at0:at? full (((off:Nat):Int)+0)=some full[off]:=(by rw[Int.add_zero,aQ h0]);have sl:oh 1 ((full.length - off:Nat):Int) (full.length - off)=true:=kH (by omega) (by omega) (by omega);have e1:off+1+(full.length - off - 1)=full.length:=(by omega);have hdl:(full.drop (off+1)).length=full.length - (off+1):=length_drop;obtain⟨full',g1,g1',g2,g3⟩:=Yj (full.length - (off+1)+1) ((full.drop (off+1)).length+2) n full [full[off]] (off+1) 0 (by omega) (by simp;omega) (by omega) (by simp;omega) (by omega) n (by omega);have hg1:=WR ((full.drop (off+1)).length+2) [full[off]] (full.drop (off+1)) 0;have hg2:=aax ((full.drop (off+1)).length+2) [full[off]] (full.drop (off+1)) 0;have hg3:∀ r,(r∈(iB ((full.drop (off+1)).length+2) [full[off]] 0 (full.drop (off+1))).1∨r∈(iB ((full.drop (off+1)).length+2) [full[off]] 0 (full.drop (off+1))).2)->OkR r=true:=by
    intro r hr;rw[WS]at hr;refine hv r ?_;rw[hd,mem_cons];rcases hr with hr |hr
    ·exact .inl (by simpa using hr)
    ·exact .inr hr
   simp only[length_cons,length_nil]at hg1 hg2;generalize hG:iB ((full.drop (off+1)).length+2) [full[off]] 0 (full.drop (off+1))=G at*;have hG6:G.1.length<=200:=(by omega);have g3':iter (lJ n) n ((((off+1:Nat)):Int),full,(0:Int),([full[off]]:List aj))=some (((off+1:Nat):Int),full',G.1):=g3;have s1:(sub ([G.1]:List (List aj)) 0 1)=[G.1]:=rfl;have lst:=lU G.1;have w1:yY n (aG G.1)=some (aT (aG G.1)):=Hq (b:=200) (by omega) (by omega) (fun s hs=>Nat.le_trans (Hr hs) hG6) (by omega) (by omega);have flat:[G.1].flatten=G.1:=(by simp);have st1:iJ n [G.1]=some (aG G.1):=by
    have:=qw (n:=n) (ls:=[G.1]) (by rw[flat];exact fun r hr=>hg3 r (.inl hr)) (by rw[flat];omega) (by simp) (by rw[flat];omega) (by simp;omega);rw[flat]at this;exact this
   have ap:aX out.length out.length ([aT (aG G.1)]:List (List aj)).length 1 24=true:=aU (n:=1) (by omega) (by simp only[maxLen];omega);have s2:(sub ([aT (aG G.1)]:List (List aj)) 0 1)=[aT (aG G.1)]:=rfl;have q1:eqL ([G.1]:List (List aj)).length 1=true:=rfl;have q2:eqL 1 ([full[off]]:List aj).length=true:=rfl;have e3:off+1+(full'.length - (off+1))=full'.length:=(by omega);have hs:uK n ((off:Int),full,out)=some (.inl (((off+1:Nat):Int),full',out++[aT (aG G.1)])):=(by simp only[uK,Int.toNat_natCast,c,c2,cond_true,at0,bind_some,sl,e1,aA,q2,g3',aV,s1,q1,st1,w1,s2,ap,bG,e3]);rw[bf hs];have hlen':full'.length - (off+1)=G.2.length:=(by rw[<- g2,length_drop]);rw[ih full' (off+1) _ (by rw[g2];exact fun r hr=>hg3 r (.inr hr)) (by omega) (by omega) (by simp;omega) (by omega) k (by omega),hd,g2];simp only[ES,hG,append_assoc,List.cons_append,nil_append]
  ·have hnil:full.drop off=[]:=List.drop_of_length_le (by omega);have c:decide ((((full.length - off:Nat):Nat):Int)>0)=false:=(by simp;omega);rw[hnil];refine aS ?_;simp only[uK,Int.toNat_natCast,c,cond_false,aA,cond_true,ES,append_nil]
theorem ae3 {a:List aj} (h:bH a=true):(∀ r∈a,OkR r=true)∧a.length<=200:=by
 unfold bH at h;rw[and_eq_true,decide_eq_true_eq,decide_eq_true_eq]at h;obtain⟨h1,h2⟩:=h;unfold ofL at h1 h2;split at h1
 ·rename_i hall;rw[if_pos hall]at h2;split at h1
  ·simp at h1
  ·rename_i h400;rw[if_neg h400]at h2;split at h1
   ·simp at h1
   ·rename_i h200;rw[if_neg h200]at h2;refine⟨all_eq_true.1 hall,?_⟩;rw[<- h2];show (aT (aG a)).length<=200;omega
 ·simp at h1
theorem Po {n:Nat} {a:List aj} (ha:a.length < 1099511627776) (ha2:a.length < n) (hn:1000<=n):G5 n a=some (kg a):=by
 unfold G5 kg;rw[lV ha ha2 hn,bind_some];cases hr:bH a with
 |false=>rfl
 |true=>
  obtain⟨hv,h2⟩:=ae3 hr;simp only[Bool.not_true,cond_false,cond_true,rR (show a.length < 1099511627776 by omega),bind_some,Nat.zero_add,length_nil,aA];have:=Yk hn (a.length+1) a 0 [] (by simpa using hv) (by omega) h2 (by simp;omega) (by omega) n (by omega);rw[this];simp only[bind_some,nil_append,List.drop_zero,aV,aA,cond_true]
def pE (x:Int):Bool:=decide (1<=x)&&decide (x<=1073741824)
def ownB (x:Int):Bool:=decide (0<=x)&&decide (x<=1073741824)
theorem qz (x:Int):oO x=some (pE x):=by unfold oO pE;cases decide (1<=x)<;>rfl
theorem Pp (x:Int):GV x=some (ownB x):=by unfold GV ownB;cases decide (0<=x)<;>rfl
def Ko (l:List Int):Bool:=!((l.zip l.tail).any fun p=>decide (p.1>=p.2))
theorem jJ {α:Type} (p:α->Bool) (l:List α):(match fI p l with |some _=>true |none=>false)=l.any p:=by
 have:=pM p l;rw[<- this];cases fI p l<;>rfl
theorem FQ {n:Nat} {l:List Int} (hl:l.length < 1099511627776) (hn:l.length < n):pW n l=some (Ko l):=by
 unfold pW Ko;have hz:(l.zip l.tail).length=l.length - 1:=by rw[List.length_zip,List.length_tail];omega
 have:=bX (l:=l.zip l.tail) (step:=nV l) (fun i=>((i+1:Nat):Int)) (fun p=>decide (p.1>=p.2)) () (fun _=>false) (fun i hi=>?_) ?_ n (by omega)
 ·rw[show ((0+1:Nat):Int)=1 from rfl]at this;rw[this,<- jJ];cases fI _ (l.zip l.tail)<;>rfl
 ·rw[hz]at hi;have h1:i+1 < l.length:=by omega
  have c:decide (((i+1:Nat):Int) < (l.length:Int))=true:=by simp;omega
  have e:i64.wrap (((i+1:Nat):Int) - 1)=((i:Nat):Int):=by rw[show ((i+1:Nat):Int) - 1=((i:Nat):Int)by omega,jC (by omega)]
  have g:(l.zip l.tail)[i]=(l[i],l[i+1]):=by simp
  simp only[nV,c,cond_true,e,aQ (show i < l.length by omega),aQ h1,bind_some,g];cases decide (l[i]>=l[i+1])with
  |true=>rfl
  |false=>simp only[cond_false];rw[aC (by omega)]
 ·have c:decide ((((l.zip l.tail).length+1:Nat):Int) < (l.length:Int))=false:=by rw[hz];simp;omega
  simp only[nV,c,cond_false]
theorem Jg {n:Nat} {l:List Int} {φ:(Int×Unit)->Option Bool} (p:Int->Bool) (h:∀ x∈l,φ (x,())=some (p x)) (hl:l.length < 1099511627776) (hn:l.length < n):rH n l φ=some (PV p l):=vZ p h hl hn
theorem HV {n:Nat} {l:List aj} {φ:(aj×Unit)->Option Bool} (p:aj->Bool) (h:∀ x∈l,φ (x,())=some (p x)) (hl:l.length < 1099511627776) (hn:l.length < n):qa n l φ=some (PV p l):=vZ p h hl hn
theorem ET {n:Nat} {l:List Int} {φ:(Int×Unit)->Option Bool} (p:Int->Bool) (h:∀ x∈l,φ (x,())=some (p x)) (hl:l.length < 1099511627776) (hn:l.length < n):jA n l φ=some (l.any p):=by
 unfold jA;rw[Jg p h hl hn,bind_some,QF]
theorem jK {n:Nat} {l:List aj} {φ:(aj×Unit)->Option Bool} (p:aj->Bool) (h:∀ x∈l,φ (x,())=some (p x)) (hl:l.length < 1099511627776) (hn:l.length < n):dW n l φ=some (l.any p):=by
 unfold dW;rw[HV p h hl hn,bind_some,QF]
def validL (t:ax):Bool:=pE t.id&&(ownB t.owner&&(Ko t.from_&&(!(t.from_.any fun x=>!pE x)&&((kg t.area).length:Int)==1)))
theorem Pq {n:Nat} {t:ax} (h:dx t) (hn:1000<=n):Da n t=some (validL t):=by
 unfold Da validL;have h1:=h.1;have h2:=h.2;rw[qz,Pp,FQ (by omega) (by omega),ET (fun x=>!pE x) (fun x _=>by show AU x=_;unfold AU;rw[qz];rfl) (by omega) (by omega),Po (by omega) (by omega) hn];simp only[bind_some];cases pE t.id<;>cases ownB t.owner<;>cases Ko t.from_<;>cases (t.from_.any fun x=>!pE x)<;>rfl
def Dr (p q:aj):Bool:=decide (max p.x0 q.x0 < min p.x1 q.x1)&&decide (max p.y0 q.y0 < min p.y1 q.y1)
def jw (a b:List aj):Bool:=a.any fun p=>b.any fun q=>Dr p q
theorem Tz {n:Nat} {a b:List aj} (ha:a.length < 1099511627776) (hb:b.length < 1099511627776) (hna:a.length < n) (hnb:b.length < n):Iz n a b=some (jw a b):=by
 unfold Iz jw;rw[jK (fun p=>b.any fun q=>Dr p q) (fun p _=>?_) ha hna]
 ·rfl
 ·show EA n p b=_;unfold EA;rw[jK (fun q=>Dr p q) (fun q _=>?_) hb hnb]
  ·rfl
  ·show tO q p=_;unfold tO Dr;have e1:max q.x0 p.x0=max p.x0 q.x0:=(by omega);have e2:min q.x1 p.x1=min p.x1 q.x1:=(by omega);have e3:max q.y0 p.y0=max p.y0 q.y0:=(by omega);have e4:min q.y1 p.y1=min p.y1 q.y1:=by omega
   first
    |(cases decide (max p.x0 q.x0 < min p.x1 q.x1)<;>rfl)
    |(rw [e1,e2,e3,e4];cases decide (max p.x0 q.x0 < min p.x1 q.x1)<;>rfl)
theorem acB {V:Type} (k k':Int) (v:V) (l:List (Int×V)):jN iEq k (nk iEq k' v l)=bif k==k' then some v else jN iEq k l:=by
 induction l with
 |nil=>simp only[nk,jN,iEq]
 |cons p r ih=>
  simp only[nk,jN,iEq];cases h:k'==p.1 with
  |true=>
   have:=eq_of_beq h;simp only[cond_true,jN,iEq,<- this];cases k==k'<;>rfl
  |false=>
   simp only[cond_false,jN,iEq]at ih ⊢;rw[ih];cases h2:k==p.1 with
   |true=>
    have h2:=eq_of_beq h2;have:(k==k')=false:=(by rw[beq_eq_false_iff_ne]at h ⊢;omega);rw[this];rfl
   |false=>rfl
theorem ae4 {V:Type} (k k':Int) (v:V) (l:List (Int×V)):k∈(nk iEq k' v l).map (·.1)↔k=k'∨k∈l.map (·.1):=by
 induction l with
 |nil=>simp[nk]
 |cons p r ih=>
  simp only[nk,iEq];cases h:k'==p.1 with
  |true=>
   have:=eq_of_beq h;simp only[cond_true,map_cons,mem_cons,<- this];constructor
   ·rintro (h |h)
    ·exact .inl h
    ·exact .inr (.inr h)
   ·rintro (h |h |h)
    ·exact .inl h
    ·exact .inl h
    ·exact .inr h
  |false=>
   simp only[cond_false,map_cons,mem_cons,ih];constructor
   ·rintro (h |h |h)
    ·exact .inr (.inl h)
    ·exact .inl h
    ·exact .inr (.inr h)
   ·rintro (h |h |h)
    ·exact .inr (.inl h)
    ·exact .inl h
    ·exact .inr (.inr h)
theorem FR {V:Type} (v:V) (k:Int):∀ (xs:List Int) (l:List (Int×V)),k∈(xs.foldl (fun m x=>nk iEq x v m) l).map (·.1)↔k∈xs∨k∈l.map (·.1)
 |[],l=>by simp
 |x::xs,l=>by
  rw[foldl_cons,FR v k xs,ae4,mem_cons];constructor
  ·rintro (h |h |h)
   ·exact .inl (.inr h)
   ·exact .inl (.inl h)
   ·exact .inr h
  ·rintro ((h |h) |h)
   ·exact .inr (.inl h)
   ·exact .inl h
   ·exact .inr (.inr h)
theorem Ps {α S O:Type} (bad:α->Bool) (o:O) (g:α->S->S) (fin:S->O):∀ (l:List α) (s:S),
 AR (fun x s=>bif bad x then .inr o else .inl (g x s)) fin l s=bif l.any bad then o else fin (l.foldl (fun s x=>g x s) s)
 |[],s=>rfl
 |x::xs,s=>by
  simp only[AR,List.any_cons,foldl_cons];cases bad x with
  |true=>rfl
  |false=>simp only[cond_false,Bool.false_or];exact Ps bad o g fin xs _
def qX (land:List ax):List (Option ax×ax):=(none::land.map some).zip land
def zG (p:Option ax×ax):Bool:=!validL p.2 || p.1.any fun u=>decide (u.id>=p.2.id)
def jL (land:List ax):Bool:=
 !((qX land).any zG)&&(!(land.any fun t=>t.from_.any fun k=>land.any fun u=>u.id==k)&&!(land.zipIdx.any fun p=>(land.take p.2).any fun u=>jw p.1.area u.area))
theorem P9 {n:Nat} {t:ax} (h:dx t) (hn:1000<=n) (m:List (Int×Bool)):iter (uL t) n ((0:Int),m)=some (t.from_.foldl (fun m x=>nk iEq x true m) m):=by
 have h2:=h.2;have:=CY (l:=t.from_) (step:=uL t) (fun i (s:List (Int×Bool))=>(((i:Nat):Int),s)) (fun x m=>nk iEq x true m) (fun s=>s) (fun i hi s=>?_) (fun s=>by simp[uL]) n (by omega) m
 ·exact this
 ·have hi':decide (((i:Nat):Int) < (t.from_.length:Int))=true:=by simpa using hi
  simp only[uL,hi',cond_true,aQ hi,bind_some];rw[aC (by omega)]
theorem eF (land:List ax):(qX land).length=land.length:=by simp[qX,List.length_zip]
theorem Dt {land:List ax} {i:Nat} (h:i < (qX land).length):(qX land)[i]=(if h0:i=0 then none else some (land[i - 1]'(by rw[eF]at h;omega)),land[i]'(by rw[eF]at h;exact h)):=by
 have hz:i < ((none::land.map some).zip land).length:=h;have:((none::land.map some).zip land)[i]=(if h0:i=0 then none else some (land[i - 1]'(by rw[eF]at h;omega)),land[i]'(by rw[eF]at h;exact h)):=by
  rw[List.getElem_zip];cases i with
  |zero=>simp
  |succ i=>simp
 exact this
theorem Qa {n:Nat} {land:List ax} (hl:land.length<=100) (h:∀ t∈land,dx t) (hn:1000<=n):
 iter (uM n land) n ((0:Int),([]:List (Int×Bool)),([]:List (Int×Bool)))=some (bif (qX land).any zG then .inr false else .inl (land.foldl (fun m t=>nk iEq t.id true m) [],land.foldl (fun m t=>t.from_.foldl (fun m x=>nk iEq x true m) m) [])):=by
 have hp:=eF land
 have:=Eu (l:=qX land) (step:=uM n land) (S:=List (Int×Bool)×List (Int×Bool)) (fun i s=>(((i:Nat):Int),s.1,s.2))
  (fun p s=>bif zG p then .inr (.inr false)else .inl (nk iEq p.2.id true s.1,p.2.from_.foldl (fun m x=>nk iEq x true m) s.2)) (fun s=> .inl s) (fun _ _=>True) (fun i hi s _=>⟨?_,fun _ _=>trivial⟩) (fun s _=>by simp[uM,hp]) n (by omega) ([],[]) trivial
 ·rw[show ((0:Nat):Int)=0 from rfl]at this;rw[this,Ps];have e:∀ (ps:List (Option ax×ax)) (s:List (Int×Bool)×List (Int×Bool)),ps.foldl (fun s p=>(nk iEq p.2.id true s.1,p.2.from_.foldl (fun m x=>nk iEq x true m) s.2)) s=((ps.map (·.2)).foldl (fun m t=>nk iEq t.id true m) s.1,(ps.map (·.2)).foldl (fun m t=>t.from_.foldl (fun m x=>nk iEq x true m) m) s.2):=by
   intro ps
   induction ps with
   |nil=>intro s;rfl
   |cons p ps ih=>intro s;simp only[foldl_cons,map_cons,ih]
  rw[e];have em:(qX land).map (·.2)=land:=by
   unfold qX;rw[show (fun p:Option ax×ax=>p.2)=Prod.snd from rfl,List.map_snd_zip];simp
  rw[em]
 ·rw[Dt hi];rw[hp]at hi;have hi':decide (((i:Nat):Int) < (land.length:Int))=true:=by simpa using hi
  have ht:=h _ (getElem_mem hi);have body:((Da n land[i]).bind fun r1=>(bif (!r1)then some true else (bif (decide (((i:Nat):Int)>(0:Int)))then (at? land (i64.wrap (((i:Nat):Int) - 1))).bind fun x2=>some (decide (x2.id>=(land[i].id:Int)))else some false)):Option Bool)=some (zG (if h0:i=0 then none else some (land[i - 1]'(by omega)),land[i])):=by
   rw[Pq ht hn,bind_some];unfold zG;by_cases h0:i=0
   ·subst h0;simp only[dif_pos];cases validL land[0]<;>rfl
   ·have c:decide (((i:Nat):Int)>0)=true:=(by simp;omega);have e:i64.wrap (((i:Nat):Int) - 1)=((i - 1:Nat):Int):=(by rw[show ((i:Nat):Int) - 1=((i - 1:Nat):Int)by omega,jC (by omega)]);simp only[dif_neg h0,c,cond_true,e,aQ (show i - 1 < land.length by omega),bind_some];cases validL land[i]<;>rfl
  simp only[uM,hi',cond_true,aQ hi,bind_some];rw[body,bind_some];cases zG (if h0:i=0 then none else some (land[i - 1]'(by omega)),land[i])with
  |true=>rfl
  |false=>
   simp only[cond_false];rw[P9 ht hn,bind_some,aC (by omega)]
theorem FT (w:List (Int×Bool)):∀ ks:List Int,Lv (G6 w) ks ()=some (bif ks.any (fun k=>(jN iEq k w).getD false)then .inr false else .inl ())
 |[]=>rfl
 |k::ks=>by
  have ih:=FT w ks;simp only[Lv,G6,List.any_cons];cases (jN iEq k w).getD false with
  |true=>rfl
  |false=>simpa using ih
theorem ag3 (land:List ax) (k:Int):(jN iEq k (land.foldl (fun m t=>nk iEq t.id true m) [])).getD false=land.any fun u=>u.id==k:=by
 have gen:∀ (l:List ax) (m:List (Int×Bool)),(jN iEq k (l.foldl (fun m t=>nk iEq t.id true m) m)).getD false=((l.any fun u=>u.id==k) || (jN iEq k m).getD false):=by
  intro l
  induction l with
  |nil=>intro m;rfl
  |cons t l ih=>
   intro m;rw[foldl_cons,ih,acB,List.any_cons,show (k==t.id)=(t.id==k)by rw[Bool.eq_iff_iff,beq_iff_eq,beq_iff_eq];exact⟨Eq.symm,Eq.symm⟩];cases t.id==k<;>cases (l.any fun u=>u.id==k)<;>rfl
 rw[gen];simp[jN]
theorem aay (land:List ax) (k:Int):k∈(land.foldl (fun m t=>t.from_.foldl (fun m x=>nk iEq x true m) m) ([]:List (Int×Bool))).map (·.1)↔∃ t∈land,k∈t.from_:=by
 have gen:∀ (l:List ax) (m:List (Int×Bool)),k∈(l.foldl (fun m t=>t.from_.foldl (fun m x=>nk iEq x true m) m) m).map (·.1)↔(∃ t∈l,k∈t.from_)∨k∈m.map (·.1):=by
  intro l
  induction l with
  |nil=>intro m;simp
  |cons t l ih=>
   intro m;rw[foldl_cons,ih,FR];constructor
   ·rintro (⟨u,hu,hk⟩ |h |h)
    ·exact .inl ⟨u,mem_cons_of_mem _ hu,hk⟩
    ·exact .inl ⟨t,mem_cons_self,h⟩
    ·exact .inr h
   ·rintro (⟨u,hu,hk⟩ |h)
    ·rcases mem_cons.1 hu with rfl |hu
     ·exact .inr (.inl hk)
     ·exact .inl ⟨u,hu,hk⟩
    ·exact .inr (.inr h)
 rw[gen];simp
theorem Qb {n:Nat} {land:List ax} (hl:land.length<=100) (h:∀ t∈land,dx t) (hn:1000<=n):
 bI (iter (uN n land) n (0:Int)) (fun ()=>some true)=some (!(land.zipIdx.any fun p=>(land.take p.2).any fun u=>jw p.1.area u.area)):=by
 have hz:land.zipIdx.length=land.length:=List.length_zipIdx;have:=bX (l:=land.zipIdx) (step:=uN n land) (fun i=>((i:Nat):Int)) (fun p=>(land.take p.2).any fun u=>jw p.1.area u.area) () (fun _=>false) (fun i hi=>?_) ?_ n (by omega)
 ·rw[show ((0:Nat):Int)=0 from rfl]at this;rw[this,<- jJ];cases fI _ land.zipIdx<;>rfl
 ·have g:land.zipIdx[i]=(land[i]'(by omega),i):=by simp
  rw[g];rw[hz]at hi;have c:decide (((i:Nat):Int) < (land.length:Int))=true:=by simpa using hi
  have hlt:(land.take i).length=i:=by rw[length_take];omega
  have inner:=bX (l:=land.take i) (step:=AX n land ((i:Nat):Int)) (fun k=>((k:Nat):Int)) (fun u=>jw land[i].area u.area) () (fun _=>(.inr (.inr false):Int ⊕ (Unit ⊕ Bool))) (fun k hk=>?_) ?_ n (by omega)
  ·rw[show ((0:Nat):Int)=0 from rfl]at inner;simp only[uN,c,cond_true,inner];rw[<- jJ];cases fI (fun u=>jw land[i].area u.area) (land.take i)with
   |some k=>rfl
   |none=>simp only[fF,cond_false];rw[aC (by omega)]
  ·rw[hlt]at hk;have c2:decide (((k:Nat):Int) < ((i:Nat):Int))=true:=(by simpa using hk);have hkl:k < land.length:=(by omega);have a1:=(h _ (getElem_mem hi)).1;have a2:=(h _ (getElem_mem hkl)).1;simp only[AX,c2,cond_true,aQ hi,aQ hkl,bind_some,List.getElem_take,Tz (n:=n) (show land[i].area.length < 1099511627776 by omega) (show land[k].area.length < 1099511627776 by omega) (by omega) (by omega)];cases jw land[i].area land[k].area with
   |true=>rfl
   |false=>simp only[cond_false];rw[aC (by omega)]
  ·rw[hlt];simp[AX]
 ·rw[hz];simp[uN]
theorem vv {n:Nat} {land:List ax} (hl:land.length<=100) (h:∀ t∈land,dx t) (hn:1000<=n):nG n land=some (jL land):=by
 unfold nG jL;have c:decide (((land.length:Nat):Int)>20000)=false:=by simp;omega
 rw[c,cond_false,Qa hl h hn,Qb hl h hn];cases (qX land).any zG with
 |true=>rfl
 |false=>
  simp only[cond_false,fF];rw[ZY,ack (o:=bif (land.any fun t=>t.from_.any fun k=>land.any fun u=>u.id==k)then .inr false else .inl ()) (fun ks hks=>?_)]
  ·cases (land.any fun t=>t.from_.any fun k=>land.any fun u=>u.id==k)<;>rfl
  ·rw[FT];have:ks.any (fun k=>(jN iEq k (land.foldl (fun m t=>nk iEq t.id true m) [])).getD false)=land.any fun t=>t.from_.any fun k=>land.any fun u=>u.id==k:=by
    rw[Bool.eq_iff_iff];simp only[any_eq_true,ag3];constructor
    ·rintro⟨k,hk,hu⟩;obtain⟨t,ht,hkt⟩:=(aay land k).1 (hks.mem_iff.2 hk);exact⟨t,ht,k,hkt,hu⟩
    ·rintro⟨t,ht,k,hkt,hu⟩;exact⟨k,hks.mem_iff.1 ((aay land k).2 ⟨t,ht,hkt⟩),hu⟩
   rw[this]
theorem WT {land:List ax} (h:jL land=true):∀ (i j:Nat) (hj:j < land.length) (hij:i < j),(land[i]'(by omega)).id < land[j].id:=by
 unfold jL at h;rw[and_eq_true]at h;have h1:=h.1;have adj:∀ (i:Nat) (hi:i+1 < land.length),(land[i]'(by omega)).id < land[i+1].id:=by
  intro i hi;have hm:(qX land)[i+1]'(by rw[eF];exact hi)∈qX land:=getElem_mem _;rw[Dt]at hm;simp only[Nat.succ_ne_zero,dif_neg,not_false_eq_true,Nat.add_sub_cancel]at hm;have h1':(qX land).any zG=false:=by simpa using h1
  have:=any_eq_false.1 h1' _ hm;simp only[zG,Option.any_some,Bool.or_eq_true,not_or]at this;have:=this.2;simp only[decide_eq_true_eq]at this;omega
 intro i j
 induction j with
 |zero=>intro _ h;omega
 |succ j ih=>
  intro hj hij;rcases Nat.lt_or_ge i j with h |h
  ·exact Int.lt_trans (ih (by omega) h) (adj j hj)
  ·have:i=j:=(by omega);subst this;exact adj i hj
abbrev ltT (a b:ax):Bool:=decide (a.id < b.id)
theorem Bh:Go.Sort.SWO ltT where
 irrefl x:=by simp[ltT]
 trans x y z h1 h2:=by simp only[ltT,decide_eq_true_eq]at *;omega
 ntrans x y z h1 h2:=by simp only[ltT,decide_eq_false_iff_not]at *;omega
instance:Inhabited ax:=⟨dw⟩
theorem ag4 (n:Nat) (rc:List ax->Int->Int->Int->((ax×ax×Unit)->Option Int)->Option (List ax)) (φ:(ax×ax×Unit)->Option Int) (l:List ax) (a b d:Int):fZ n rc l a b d φ=eD (fun x y=>φ (x,y,())) (fun r=>decide (r < 0)) aN aR n (fun l a b d=>rc l a b d φ) l a b d:=by kernel_rfl
theorem aaz (n:Nat) (φ:(ax×ax×Unit)->Option Int):∀ m l a b d,cB n m l a b d φ=dP (fun x y=>φ (x,y,())) (fun r=>decide (r < 0)) aN aR n m l a b d
 | 0,l,a,b,d=>rfl
 |m+1,l,a,b,d=>by
  have e:(fun l a b d=>cB n m l a b d φ)=dP (fun x y=>φ (x,y,())) (fun r=>decide (r < 0)) aN aR n m:=by
   funext l a b d;exact aaz n φ m l a b d
  show fZ n (cB n m) l a b d φ=eD (fun x y=>φ (x,y,())) (fun r=>decide (r < 0)) aN aR n (dP (fun x y=>φ (x,y,())) (fun r=>decide (r < 0)) aN aR n m) l a b d;rw[<- e];exact ag4 n (cB n m) φ l a b d
theorem Kq {n:Nat} {l:List ax} {φ:(ax×ax×Unit)->Option Int} (f:ax->ax->Int) (hφ:∀ x y,φ (x,y,())=some (f x y)) (hf:∀ x y,decide (f x y < 0)=ltT x y) (hl:l.length < 1099511627776) (hn:l.length < n):nW n l φ=some (pU ltT l):=by
 unfold nW kX;rw[jD (by omega),vg (by omega)];simp only[bind_some,aA,cond_true,aaz];rw[pV (lt:=ltT) Bh (f:=f) (q:=fun r=>decide (r < 0)) hφ hf ad6 ad7 (by omega) hn hn];rfl
def takenL (land:List ax) (k:Int):Bool:=land.any fun t=>t.id==k || t.from_.any fun x=>k==x
theorem wX {n:Nat} {l:List ax} {φ:(ax×Unit)->Option Bool} (p:ax->Bool) (h:∀ x∈l,φ (x,())=some (p x)) (hl:l.length < 1099511627776) (hn:l.length < n):l9 n l φ=some (PV p l):=vZ p h hl hn
theorem Bj {n:Nat} {land:List ax} {k:Int} (h:∀ t∈land,dx t) (hl:land.length < 1099511627776) (hn:land.length < n) (hn1:1000<=n):y5 n land k=some (takenL land k):=by
 unfold y5 eG;have:l9 n land (fun (y1:ax×Unit)=>uO n y1.1 k)=some (PV (fun t:ax=>t.id==k || t.from_.any fun x=>k==x) land):=by
  refine wX (fun t:ax=>t.id==k || t.from_.any fun x=>k==x) (fun t ht=>?_) hl hn;have h2:=(h t ht).2;show uO n t k=_;unfold uO;rw[zA (by omega) (by omega)];cases t.id==k<;>rfl
 rw[this];simp only[bind_some,QF,takenL]
theorem wH {n:Nat} {a:List aj} (ha:a.length < 1099511627776) (ha2:a.length < n) (hn:1000<=n):mh n a=some (((kg a).length:Int)==1):=by
 unfold mh;rw[Po ha ha2 hn];rfl
def bC (l:List ax):List Int:=kV (l.flatMap fun t=>t.id::t.from_)
theorem oW (l:List ax) (h:∀ t∈l,dx t):(l.flatMap fun t=>t.id::t.from_).length<=901*l.length:=by
 induction l with
 |nil=>simp
 |cons t l ih=>
  have:=ih fun u hu=>h u (by simp[hu]);have:=(h t (by simp)).2;simp only[List.flatMap_cons,length_append,length_cons];omega
theorem TA {n:Nat} {l:List ax} (h:∀ t∈l,dx t) (hl:l.length < 1000000) (hn:901*l.length < n):IC n l=some (bC l):=by
 have hf:=oW l h;unfold IC;have run:iter (za l) n ((0:Int),([]:List Int))=some (l.flatMap fun t=>t.id::t.from_):=by
  have:=dm (step:=za l) (fun i=>(((i:Nat):Int),(l.take i).flatMap fun t=>t.id::t.from_)) l.length (l.flatMap fun t=>t.id::t.from_) (fun i hi=>?_) ?_ n (by omega)
  ·simpa using this
  ·have hi':decide (((i:Nat):Int) < (l.length:Int))=true:=(by simpa using hi);have lt:=oW (l.take i) fun t ht=>h t (List.mem_of_mem_take ht);rw[length_take]at lt;have h2:=(h l[i] (getElem_mem hi)).2;have a1:aX ((l.take i).flatMap fun t=>t.id::t.from_).length ((l.take i).flatMap fun t=>t.id::t.from_).length (sub ([l[i].id]:List Int) 0 1).length 1 8=true:=aU (n:=1) (by omega) (by simp only[maxLen];omega);have s1:(sub ([l[i].id]:List Int) 0 1)=[l[i].id]:=rfl;have a2:aX (((l.take i).flatMap fun t=>t.id::t.from_)++[l[i].id]).length (((l.take i).flatMap fun t=>t.id::t.from_)++[l[i].id]).length l[i].from_.length l[i].from_.length 8=true:=by
    refine aU ?_ ?_
    ·rw[length_append,length_singleton];omega
    ·rw[length_append,length_singleton];simp only[maxLen];omega
   rw[s1]at a1;simp only[za,hi',cond_true,aQ hi,bind_some,s1,a1,bG,a2,aA];rw[aC (by omega),take_succ_eq_append_getElem hi,List.flatMap_append];simp
  ·simp[za]
 simp only[length_nil,aA,cond_true,run,bind_some];rw[jF (by omega) (by omega)];simp only[bind_some,bD,aA,cond_true];rw[iZ (by rw[bD];omega) (by rw[bD];omega)];simp only[bind_some,aV,aA,cond_true];rfl
def replaceL (land:List ax) (old:List Int) (lots:List ax):List ax:=pU ltT ((land.filter fun t=>!(old.any fun x=>t.id==x))++lots)
theorem Yl {t:ax} (h1:t.area.length < 1099511627776) (h2:t.from_.length < 1099511627776):uP t=some t:=by
 unfold uP;rw[rR h1,bind_some,FN h2,bind_some];simp only[aV,aA,cond_true]
theorem uf {n:Nat} {land:List ax} {old:List Int} {lots:List ax} (h:∀ t∈land,dx t) (hl:land.length<=100) (ho:old.length<=100) (h2:∀ t∈lots,t.area.length<=900∧t.from_.length<=10000) (hl2:lots.length<=100) (hn:1000<=n):
 oC n land old lots=some (replaceL land old lots,0):=by
 unfold oC;have run1:iter (nH n land old) n ((0:Int),([]:List ax))=some (land.filter fun t=>!(old.any fun x=>t.id==x)):=by
  have:=dm (step:=nH n land old) (fun i=>(((i:Nat):Int),(land.take i).filter fun t=>!(old.any fun x=>t.id==x))) land.length (land.filter fun t=>!(old.any fun x=>t.id==x)) (fun i hi=>?_) ?_ n (by omega)
  ·simpa using this
  ·have hi':decide (((i:Nat):Int) < (land.length:Int))=true:=(by simpa using hi);have lt:=length_filter_le (fun t:ax=>!(old.any fun x=>t.id==x)) (land.take i);rw[length_take]at lt;have a1:aX ((land.take i).filter fun t=>!(old.any fun x=>t.id==x)).length ((land.take i).filter fun t=>!(old.any fun x=>t.id==x)).length (sub ([land[i]]:List ax) 0 1).length 1 64=true:=aU (n:=1) (by omega) (by simp only[maxLen];omega);have s1:(sub ([land[i]]:List ax) 0 1)=[land[i]]:=rfl;rw[s1]at a1;have tk:(land.take (i+1)).filter (fun t=>!(old.any fun x=>t.id==x))=((land.take i).filter fun t=>!(old.any fun x=>t.id==x))++(bif !(old.any fun x=>land[i].id==x)then [land[i]]else []):=by
    rw[take_succ_eq_append_getElem hi,filter_append];cases hb:(old.any fun x=>land[i].id==x)<;>simp[hb]
   simp only[nH,hi',cond_true,aQ hi,bind_some,zA (n:=n) (l:=old) (a:=land[i].id) (by omega) (by omega),Pn (h _ (getElem_mem hi)),s1,a1,bG,aA];rw[tk,aC (by omega)];cases (old.any fun x=>land[i].id==x)with
   |true=>simp
   |false=>simp
  ·simp[nH]
 have lf:=length_filter_le (fun t:ax=>!(old.any fun x=>t.id==x)) land;have run2:∀ base:List ax,base.length<=100->iter (nI lots) n ((0:Int),base)=some (base++lots):=by
  intro base hb;have:=dm (step:=nI lots) (fun i=>(((i:Nat):Int),base++lots.take i)) lots.length (base++lots) (fun i hi=>?_) ?_ n (by omega)
  ·simpa using this
  ·have hi':decide (((i:Nat):Int) < (lots.length:Int))=true:=(by simpa using hi);have hh:=h2 _ (getElem_mem hi);have s1:(sub ([lots[i]]:List ax) 0 1)=[lots[i]]:=rfl;have a1:aX (base++lots.take i).length (base++lots.take i).length ([lots[i]]:List ax).length 1 64=true:=by
    refine aU (n:=1) ?_ ?_
    ·rw[length_append,length_take];omega
    ·rw[length_append,length_take];simp only[maxLen];omega
   simp only[nI,hi',cond_true,aQ hi,bind_some,Yl (t:=lots[i]) (by omega) (by omega),s1,a1,bG,aA];rw[aC (by omega),take_succ_eq_append_getElem hi,append_assoc]
  ·simp[nI]
 have ll:((land.filter fun t=>!(old.any fun x=>t.id==x))++lots).length<=200:=by rw[length_append];omega
 simp only[length_nil,aA,cond_true,run1,bind_some,run2 _ (show (land.filter fun t=>!(old.any fun x=>t.id==x)).length<=100 by omega)];rw[Kq (fun a b=>if a.id < b.id then -1 else if b.id < a.id then 1 else 0) (fun a b=>by show tQ a b=_;unfold tQ;rw[oG];rfl) (fun a b=>by
  by_cases h1:a.id < b.id
  ·simp[h1]
  ·by_cases h2:b.id < a.id<;>simp[h1,h2]) (by omega) (by omega)]
 have lg:(pU ltT ((land.filter fun t=>!(old.any fun x=>t.id==x))++lots)).length=((land.filter fun t=>!(old.any fun x=>t.id==x))++lots).length:=xw Bh _;simp only[bind_some];rw[show sub (pU ltT ((land.filter fun t=>!(old.any fun x=>t.id==x))++lots)) 0 ((land.filter fun t=>!(old.any fun x=>t.id==x))++lots).length=replaceL land old lots by rw[<- lg,aV];rfl];rw[PW (show (replaceL land old lots).length=_ from lg)];rfl
def Diff (land:List ax):Prop:=land.Pairwise fun a b=>a.id≠b.id
theorem ME {land:List ax} (h:Diff land) {t:ax} (ht:t∈land):aI land t.id=(t,true):=by
 unfold aI;cases hf:land.find? fun u=>u.id==t.id with
 |none=>
  have:=List.find?_eq_none.1 hf t ht;simp at this
 |some u=>
  have hu:=List.mem_of_find?_eq_some hf;have e:=List.find?_some hf;have e:=eq_of_beq e;unfold Diff at h;rw[pairwise_iff_getElem]at h;obtain⟨i,hi,rfl⟩:=mem_iff_getElem.1 hu;obtain⟨j,hj,rfl⟩:=mem_iff_getElem.1 ht;rcases Nat.lt_trichotomy i j with hl |hl |hl
  ·exact absurd e (h i j hi hj hl)
  ·subst hl;rfl
  ·exact absurd e.symm (h j i hj hi hl)
theorem Vh {land:List ax} (h:jL land=true):Diff land:=by
 unfold Diff;rw[pairwise_iff_getElem];intro i j hi hj hij e;have:=WT h i j hj hij;omega
theorem zH {land:List ax} {id:Int} (h:(aI land id).2=true):(aI land id).1∈land∧(aI land id).1.id=id:=by
 unfold aI at*;cases hf:land.find? fun t=>t.id==id with
 |none=>rw[hf]at h;cases h
 |some u=>
  have e:=List.find?_some hf;exact⟨List.mem_of_find?_eq_some hf,eq_of_beq e⟩
theorem qC {land:List ax} {old:List Int} {lots:List ax} {t:ax}:t∈replaceL land old lots↔(t∈land∧∀ x∈old,t.id≠x)∨t∈lots:=by
 unfold replaceL;rw[(lH Bh _).mem_iff,mem_append,mem_filter];simp
theorem Vi {land:List ax} {old:List Int} {lots:List ax} (h:Diff land) (h2:Diff lots) (h3:∀ t∈land,(∀ x∈old,t.id≠x)->∀ u∈lots,t.id≠u.id):Diff (replaceL land old lots):=by
 unfold replaceL Diff;rw[(lH Bh _).pairwise_iff (fun {a b} hab=>Ne.symm hab),pairwise_append];refine⟨h.filter _,h2,fun t ht u hu=>?_⟩;rw[mem_filter]at ht;exact h3 t ht.1 (by simpa using ht.2) u hu
theorem Ym (land:List ax) (old:List Int) (lots:List ax):(replaceL land old lots).length<=land.length+lots.length:=by
 unfold replaceL;rw[xw Bh,length_append];have:=length_filter_le (fun t:ax=>!(old.any fun x=>t.id==x)) land;omega
theorem HY {land:List ax} (h:jL land=true) {t:ax} (ht:t∈land):validL t=true:=by
 unfold jL at h;rw[and_eq_true]at h;have h1:(qX land).any zG=false:=by simpa using h.1
 obtain⟨i,hi,rfl⟩:=mem_iff_getElem.1 ht;have hm:(qX land)[i]'(by rw[eF];exact hi)∈qX land:=getElem_mem _;rw[Dt]at hm;have:=any_eq_false.1 h1 _ hm;simp only[zG,Bool.or_eq_true,not_or]at this;simpa using this.1
def Vj (r:aj) (x y:Int):Bool:=(decide (r.x0<=x)&&decide (x < r.x1))&&(decide (r.y0<=y)&&decide (y < r.y1))
theorem Vk {a:List aj} (h:bH a=true) (x:Int):Can (bE a x):=by
 obtain⟨h1,h2,h3⟩:=bZ h;have e:bE a x=aO a x:=by
  have:=zB (jI a) x;rw[h3,kT]at this;exact this
 rw[e];exact (dS h1 x).1
theorem aaA (a b:List aj):jw a b=true↔∃ x y,cellsL a x y=true∧cellsL b x y=true:=by
 have h:∀ (l:List aj) (x y:Int),cellsL l x y=true↔∃ r∈l,(r.x0<=x∧x < r.x1)∧(r.y0<=y∧y < r.y1):=fun l x y=>by simp[cellsL,and_assoc]
 unfold jw;simp only[any_eq_true,h];constructor
 ·rintro⟨p,hp,q,hq,hm⟩;simp only[Dr,and_eq_true,decide_eq_true_eq]at hm;exact⟨max p.x0 q.x0,max p.y0 q.y0,⟨p,hp,by omega⟩,⟨q,hq,by omega⟩⟩
 ·rintro⟨x,y,⟨p,hp,h1⟩,⟨q,hq,h2⟩⟩;refine⟨p,hp,q,hq,?_⟩;simp only[Dr,and_eq_true,decide_eq_true_eq];omega
def ApartC (a b:List aj):Prop:=∀ x y,cellsL a x y=true->cellsL b x y=true->False
theorem HZ (a b:List aj):jw a b=false↔ApartC a b:=by
 rw[Bool.eq_false_iff,Ne,aaA];exact⟨fun h x y h1 h2=>h ⟨x,y,h1,h2⟩,fun h ⟨x,y,h1,h2⟩=>h x y h1 h2⟩
theorem ApartC.symm {a b:List aj} (h:ApartC a b):ApartC b a:=fun x y h1 h2=>h x y h2 h1
structure IsLand (land:List ax):Prop where
 asc:land.Pairwise fun a b=>a.id < b.id
 val:∀ t∈land,validL t=true
 old:∀ t∈land,∀ u∈land,u.id∉t.from_
 apart:land.Pairwise fun a b=>ApartC a.area b.area
theorem zI (land:List ax):jL land=true↔IsLand land:=by
 constructor
 ·intro h;refine⟨?_,fun t ht=>HY h ht,?_,?_⟩
  ·rw[pairwise_iff_getElem];intro i j hi hj hij;exact WT h i j hj hij
  ·unfold jL at h;rw[and_eq_true,and_eq_true]at h;have h2:=h.2.1;intro t ht u hu hm;rw[Bool.not_eq_true']at h2;have h3:=any_eq_false.1 h2 t ht;simp only[any_eq_true,not_exists,not_and]at h3;exact h3 _ hm u hu (by simp)
  ·unfold jL at h;rw[and_eq_true,and_eq_true]at h;have h2:=h.2.2;rw[Bool.not_eq_true']at h2;rw[pairwise_iff_getElem];intro i j hi hj hij;have hm:(land[j],j)∈land.zipIdx:=by
    rw[mem_iff_getElem];exact⟨j,by simpa using hj,by simp⟩
   have h3:=any_eq_false.1 h2 _ hm;simp only[any_eq_true,not_exists,not_and]at h3;have h4:=h3 land[i] (by rw[List.mem_take_iff_getElem];exact⟨i,by omega,rfl⟩);rw[Bool.not_eq_true,HZ]at h4;exact h4.symm
 ·rintro⟨h1,h2,h3,h4⟩;rw[pairwise_iff_getElem]at h1 h4;unfold jL;rw[and_eq_true,and_eq_true];refine⟨?_,?_,?_⟩
  ·rw[Bool.not_eq_true',any_eq_false];intro p hp;obtain⟨i,hi,rfl⟩:=mem_iff_getElem.1 hp;rw[Dt];rw[eF]at hi;simp only[zG,Bool.or_eq_true,not_or,h2 _ (getElem_mem hi)];refine⟨by simp,?_⟩;by_cases h0:i=0
   ·simp[h0]
   ·simp only[h0,dif_neg,not_false_eq_true,Option.any_some,decide_eq_true_eq];have:=h1 (i - 1) i (by omega) hi (by omega);omega
  ·rw[Bool.not_eq_true',any_eq_false];intro t ht;simp only[any_eq_true,not_exists,not_and,beq_iff_eq];intro k hk u hu e;exact h3 t ht u hu (e ▸ hk)
  ·rw[Bool.not_eq_true',any_eq_false];intro p hp;obtain⟨i,hi,rfl⟩:=mem_iff_getElem.1 hp;have hi':i < land.length:=(by simpa using hi);simp only[List.getElem_zipIdx,Nat.zero_add,any_eq_true,not_exists,not_and];intro u hu;rw[List.mem_take_iff_getElem]at hu;obtain⟨k,hk,rfl⟩:=hu;rw[Bool.not_eq_true,HZ];exact (h4 k i (by omega) hi' (by omega)).symm
theorem IsLand.diff {land:List ax} (h:IsLand land):Diff land:=Vh ((zI land).2 h)
theorem IsLand.apart' {land:List ax} (h:IsLand land) {t u:ax} (ht:t∈land) (hu:u∈land) (hne:t.id≠u.id):ApartC t.area u.area:=by
 have h4:=h.apart;rw[pairwise_iff_getElem]at h4;obtain⟨i,hi,rfl⟩:=mem_iff_getElem.1 ht;obtain⟨k,hk,rfl⟩:=mem_iff_getElem.1 hu;rcases Nat.lt_trichotomy i k with c |c |c
 ·exact h4 i k hi hk c
 ·subst c;exact absurd rfl hne
 ·exact (h4 k i hk hi c).symm
theorem IsLand.uniq {land:List ax} (h:IsLand land) {t u:ax} (ht:t∈land) (hu:u∈land) (he:t.id=u.id):t=u:=by
 have h1:=ME h.diff ht;have h2:=ME h.diff hu;rw[he,h2]at h1;exact (congrArg Prod.fst h1).symm
theorem acC:IsLand []:=⟨.nil,fun _ h=>by simp at h,fun _ h=>by simp at h,.nil⟩
theorem H6 {land:List ax} {k:Int} (h:takenL land k=false) {t:ax} (ht:t∈land):t.id≠k∧k∉t.from_:=by
 have:=any_eq_false.1 h t ht;simp only[Bool.or_eq_true,not_or,beq_iff_eq,any_eq_true,not_exists,not_and]at this;exact⟨this.1,fun hk=>this.2 k hk rfl⟩
theorem Kr {land:List ax} {k:Int}:takenL land k=true↔∃ t∈land,t.id=k∨k∈t.from_:=by
 unfold takenL;simp only[any_eq_true,Bool.or_eq_true,beq_iff_eq];constructor
 ·rintro⟨t,ht,h |⟨x,hx,rfl⟩⟩
  ·exact⟨t,ht,.inl h⟩
  ·exact⟨t,ht,.inr hx⟩
 ·rintro⟨t,ht,h |h⟩
  ·exact⟨t,ht,.inl h⟩
  ·exact⟨t,ht,.inr ⟨k,h,rfl⟩⟩
theorem xS {land:List ax} {old:List Int} {lots:List ax} (h:IsLand land) (hd:Diff lots) (hv:∀ u∈lots,validL u=true)
 (hk:∀ u∈lots,∀ t∈land,(∀ x∈old,t.id≠x)->(t.id≠u.id∧u.id∉t.from_)∧t.id∉u.from_∧ApartC u.area t.area)
 (hf:∀ u∈lots,∀ w∈lots,u.id∉w.from_) (ha:lots.Pairwise fun a b=>ApartC a.area b.area):IsLand (replaceL land old lots):=by
 have hD:Diff (replaceL land old lots):=Vi h.diff hd fun t ht hx u hu=>(hk u hu t ht hx).1.1;refine⟨?_,?_,?_,?_⟩
 ·have hs:=xu Bh ((land.filter fun t=>!(old.any fun x=>t.id==x))++lots);have:=List.Pairwise.and hs hD;refine this.imp fun {a b} hab=>?_;obtain⟨h1,h2⟩:=hab;simp only[ltT,decide_eq_false_iff_not]at h1;omega
 ·intro t ht;rcases qC.1 ht with ⟨ht,_⟩ |ht
  ·exact h.val t ht
  ·exact hv t ht
 ·intro t ht u hu;rcases qC.1 ht with ⟨ht,hx⟩ |ht
  ·rcases qC.1 hu with ⟨hu,hy⟩ |hu
   ·exact h.old t ht u hu
   ·exact (hk u hu t ht hx).1.2
  ·rcases qC.1 hu with ⟨hu,hy⟩ |hu
   ·exact (hk t ht u hu hy).2.1
   ·exact hf u hu t ht
 ·unfold replaceL;rw[(lH Bh _).pairwise_iff (fun {a b} hab=>ApartC.symm hab),pairwise_append];refine⟨h.apart.filter _,ha,fun t ht u hu=>?_⟩;rw[mem_filter]at ht;exact (hk u hu t ht.1 (by simpa using ht.2)).2.2.symm
def acD (land:List ax):Prop:=∀ t∈land,bH t.area=true
theorem EU {t:ax} (h:validL t=true):bH t.area=true:=by
 unfold validL at h;simp only[and_eq_true]at h;have h1:=h.2.2.2.2;unfold kg at h1;cases hr:bH t.area with
 |true=>rfl
 |false=>rw[hr]at h1;simp at h1
theorem IsLand.areas {land:List ax} (h:IsLand land):acD land:=fun t ht=>EU (h.val t ht)
def Used (U:List Int) (land:List ax):Prop:=∀ t∈land,t.id∈U∧∀ x∈t.from_,x∈U
theorem WU:∀ {l m:List Int},l.Pairwise (· < ·)->(∀ x∈l,x∈m)->l.length<=m.length
 |[],_,_,_=>by simp
 |x::l,m,h,hm=>by
  rw[pairwise_cons]at h;have hx:=hm x mem_cons_self;have:=WU (l:=l) (m:=m.erase x) h.2 fun z hz=>by
   have:=h.1 z hz;exact (List.mem_erase_of_ne (by omega)).2 (hm z (mem_cons_of_mem _ hz))
  rw[List.length_erase_of_mem hx]at this;have:=List.length_pos_of_mem hx;simp only[length_cons];omega
theorem Du (l:List Int):Ko l=true↔l.Pairwise (· < ·):=by
 unfold Ko;rw[Bool.not_eq_true',any_eq_false]
 induction l with
 |nil=>simp
 |cons a l ih=>
  cases l with
  |nil=>simp
  |cons b l=>
   simp only[List.tail_cons,List.zip_cons_cons,mem_cons,forall_eq_or_imp]at ih ⊢;rw[pairwise_cons];constructor
   ·rintro⟨h1,h2⟩;have hp:=ih.1 h2;refine⟨fun z hz=>?_,hp⟩;simp only[decide_eq_true_eq]at h1;rcases mem_cons.1 hz with rfl |hz
    ·omega
    ·have:=(pairwise_cons.1 hp).1 z hz;omega
   ·rintro⟨h1,h2⟩;refine⟨?_,ih.2 h2⟩;have:=h1 b mem_cons_self;simp;omega
theorem Bl {t:ax} (h:validL t=true):t.from_.Pairwise (· < ·)∧∀ x∈t.from_,pE x=true:=by
 unfold validL at h;simp only[and_eq_true,Bool.not_eq_true',any_eq_false]at h;refine⟨(Du _).1 h.2.2.1,fun x hx=>?_⟩;have:=h.2.2.2.1 x hx;simpa using this
theorem IY {t:ax} (h1:pE t.id=true) (h2:ownB t.owner=true) (h3:t.from_.Pairwise (· < ·)) (h4:∀ x∈t.from_,pE x=true) (h5:(((kg t.area).length:Int)==1)=true):validL t=true:=by
 unfold validL;simp only[and_eq_true,Bool.not_eq_true',any_eq_false];exact⟨h1,h2,(Du _).2 h3,fun x hx=>by simp[h4 x hx],h5⟩
theorem xU {t:ax} (h:validL t=true):pE t.id=true∧ownB t.owner=true∧(((kg t.area).length:Int)==1)=true:=by
 unfold validL at h;simp only[and_eq_true]at h;exact⟨h.1,h.2.1,h.2.2.2.2⟩
theorem ag5 {U:List Int} {land:List ax} (hu:Used U land) (h:IsLand land) {t:ax} (ht:t∈land):t.from_.length<=U.length:=
 WU (Bl (h.val t ht)).1 (hu t ht).2
theorem oZ {l:List ax} {z:Int}:z∈bC l↔∃ t∈l,z=t.id∨z∈t.from_:=by
 unfold bC;rw[uE,mem_flatMap];simp
theorem xV (l:List ax):(bC l).Pairwise (· < ·):=iT _
def Dv (a:List aj):Bool:=((kg a).length:Int)==1
def NV (land:List ax) (lot:ax):List ax×Int:=
 bif !jL land || (!validL lot || decide (lot.from_≠[]))then ([],1)else
 bif takenL land lot.id then ([],5)else
 bif land.any fun t=>jw t.area lot.area then ([],11)else
 (replaceL land [] [lot],0)
theorem gtz {α:Type} (l:List α):decide (((l.length:Nat):Int)>0)=decide (l≠[]):=by cases l<;>simp<;>omega
theorem EW {n:Nat} {l:List ax} {φ:(ax×Unit)->Option Bool} (p:ax->Bool) (h:∀ x∈l,φ (x,())=some (p x)) (hl:l.length < 1099511627776) (hn:l.length < n):eG n l φ=some (l.any p):=by
 unfold eG;rw[wX p h hl hn,<- jJ];simp only[bind_some,PV];cases fI p l<;>simp<;>omega
theorem NW {n:Nat} {land:List ax} {lot:ax} (h:∀ t∈land,dx t) (hl:land.length<=99) (hk:dx lot) (hn:1000<=n):NH n land lot=some (NV land lot):=by
 unfold NH NV;rw[vv (by omega) h hn];simp only[bind_some];cases jL land with
 |false=>rfl
 |true=>
 rw[Pq hk hn];simp only[Bool.not_true,cond_false,Bool.false_or,bind_some,gtz];cases validL lot with
 |false=>rfl
 |true=>
 simp only[Bool.not_true,cond_false,Bool.false_or,bind_some];cases decide (lot.from_≠[])with
 |true=>rfl
 |false=>
 rw[Bj h (by omega) (by omega) hn];simp only[cond_false,bind_some];cases takenL land lot.id with
 |true=>rfl
 |false=>
 have d2:decide ((land.length:Int)>=20000)=false:=by simp;omega
 have s3:(sub ([lot]:List ax) 0 1)=[lot]:=rfl;have q3:eqL ([lot]:List ax).length 1=true:=rfl;have rp:=uf (n:=n) (land:=land) (old:=[]) (lots:=[lot]) h (by omega) (by simp) (fun t ht=>by
  have:t=lot:=by simpa using ht
  subst this;exact⟨hk.1,by have:=hk.2;omega⟩) (by simp) hn
 rw[EW (fun t=>jw t.area lot.area) (fun t ht=>by
  show IA n t lot=_;unfold IA;have:=h t ht;have h1:=this.1;have h2:=hk.1;rw[Tz (by omega) (by omega) (by omega) (by omega)];rfl) (by omega) (by omega)]
 simp only[cond_false,bind_some,d2,s3,q3,cond_true,rp,aV,aA];cases land.any fun t=>jw t.area lot.area<;>rfl
def NY (land:List ax) (id a b:Int) (T:ax) (I O:List aj×Int):List ax×Int:=
 bif (I.2==0&&decide (I.1=[])) || (O.2==0&&decide (O.1=[]))then ([],10)else
 bif I.2 != 0 || O.2 != 0 then ([],6)else
 bif !Dv I.1 || !Dv O.1 then ([],12)else
 (replaceL land [id] [ax.mk a T.owner I.1 (bC [T]),ax.mk b T.owner O.1 (bC [T])],0)
def wI (land:List ax) (id:Int) (cut:List aj) (a b:Int):List ax×Int:=
 bif !jL land || (!bH cut || (!pE a || (!pE b || a==b)))then ([],1)else
 bif !(aI land id).2 then ([],4)else
 bif takenL land a || takenL land b then ([],5)else
 NY land id a b (aI land id).1 (fT (fun p q=>p&&q) (aI land id).1.area cut) (fT (fun p q=>p&&!q) (aI land id).1.area cut)
theorem BR {n:Nat} {land:List ax} {id a b:Int} {cut:List aj} (h:∀ t∈land,dx t) (hl:land.length<=99) (hc:cut.length<=900) (hn:1000<=n):
 Df n land id cut a b=some (wI land id cut a b):=by
 have hfo:=lW h id;unfold Df wI;rw[vv (by omega) h hn,lV (by omega) (by omega) hn,qz,qz];simp only[bind_some];cases hr:jL land with
 |false=>rfl
 |true=>
 cases hcr:bH cut with
 |false=>rfl
 |true=>
 cases pE a with
 |false=>rfl
 |true=>
 cases pE b with
 |false=>rfl
 |true=>
 cases hab:a==b with
 |true=>rfl
 |false=>
 rw[zF h (by omega) (by omega)];simp only[Bool.not_true,cond_false,bind_some,Bool.false_or];cases hf:(aI land id).2 with
 |false=>rfl
 |true=>
 rw[Bj h (by omega) (by omega) hn,Bj h (by omega) (by omega) hn];simp only[Bool.not_true,cond_false,bind_some];cases hta:takenL land a with
 |true=>rfl
 |false=>
 cases htb:takenL land b with
 |true=>rfl
 |false=>
 generalize hT:(aI land id).1=T at*;rw[Yh (by omega) (by omega) (by omega) (by omega) hn,aav (by omega) (by omega) (by omega) (by omega) hn];have li:=MC (keep:=fun p q=>p&&q) T.area cut;have lo:=MC (keep:=fun p q=>p&&!q) T.area cut;simp only[bind_some,cond_false,Bool.false_or];generalize hI:fT (fun p q=>p&&q) T.area cut=I at*;generalize hO:fT (fun p q=>p&&!q) T.area cut=O at*;have z:∀ l:List aj,(((l.length:Int))==0)=decide (l=[]):=fun l=>by cases l<;>simp<;>omega
 have d2:decide ((land.length:Int)>=20000)=false:=by simp;omega
 rw[z,z,d2,wH (by omega) (by omega) hn,wH (by omega) (by omega) hn];unfold NY Dv;have s1:(sub ([T]:List ax) 0 1)=[T]:=rfl;have s2:(sub ([id]:List Int) 0 1)=[id]:=rfl;have s3:∀ x y:ax,(sub ([x,y]:List ax) 0 2)=[x,y]:=fun _ _=>rfl;have q1:eqL ([T]:List ax).length 1=true:=rfl;have q2:eqL ([id]:List Int).length 1=true:=rfl;have q3:∀ x y:ax,eqL ([x,y]:List ax).length 2=true:=fun _ _=>rfl;have hTk:∀ t∈[T],dx t:=fun t ht=>by
  have:t=T:=by simpa using ht
  subst this;exact hfo
 have ln:IC n [T]=some (bC [T]):=TA hTk (by simp) (by simp;omega);have lnl:(bC [T]).length<=901:=by
  have h1:=je (([T]:List ax).flatMap fun t=>t.id::t.from_);have h2:=oW [T] hTk;have h3:(bC [T]).length<=_:=h1;simp only[length_singleton]at h2;omega
 have rp:=uf (n:=n) (land:=land) (old:=[id]) (lots:=[ax.mk a T.owner I.1 (bC [T]),ax.mk b T.owner O.1 (bC [T])]) h (by omega) (by simp) (fun t ht=>by
  rcases mem_cons.1 ht with rfl |ht
  ·exact⟨by show I.1.length<=900;omega,by show (bC [T]).length<=10000;omega⟩
  ·have:t=ax.mk b T.owner O.1 (bC [T]):=(by simpa using ht);subst this;exact⟨by show O.1.length<=900;omega,by show (bC [T]).length<=10000;omega⟩) (by simp) hn
 simp only[bind_some,s1,q1,cond_true,ln,aV,aA,s2,q2,s3,q3,rp];cases I.2==0 with
 |false=>
  simp only[cond_false,bind_some,Bool.false_and,Bool.false_or];cases O.2==0<;>cases decide (O.1=[])<;>cases I.2 != 0<;>cases O.2 != 0<;>cases ((kg I.1).length:Int)==1<;>cases ((kg O.1).length:Int)==1<;>rfl
 |true=>
  simp only[cond_true,bind_some,Bool.true_and];cases decide (I.1=[])<;>cases O.2==0<;>cases decide (O.1=[])<;>cases I.2 != 0<;>cases O.2 != 0<;>cases ((kg I.1).length:Int)==1<;>cases ((kg O.1).length:Int)==1<;>rfl
def kU (land:List ax) (id to:Int):List ax×Int:=
 bif !jL land || !ownB to then ([],1)else
 bif !(aI land id).2 then ([],4)else
 (replaceL land [id] [ax.mk (aI land id).1.id to (aI land id).1.area (aI land id).1.from_],0)
theorem NZ {n:Nat} {land:List ax} {id to:Int} (h:∀ t∈land,dx t) (hl:land.length<=99) (hn:1000<=n):A9 n land id to=some (kU land id to):=by
 have hfo:=lW h id;unfold A9 kU;rw[vv (by omega) h hn,Pp];simp only[bind_some];cases hr:jL land with
 |false=>rfl
 |true=>
 cases ownB to with
 |false=>rfl
 |true=>
 rw[zF h (by omega) (by omega)];simp only[Bool.not_true,cond_false,bind_some,Bool.false_or];cases hf:(aI land id).2 with
 |false=>rfl
 |true=>
 generalize hT:(aI land id).1=T at*;have s2:(sub ([id]:List Int) 0 1)=[id]:=rfl;have s3:(sub ([ax.mk T.id to T.area T.from_]:List ax) 0 1)=[ax.mk T.id to T.area T.from_]:=rfl;have q2:eqL ([id]:List Int).length 1=true:=rfl;have q3:eqL ([ax.mk T.id to T.area T.from_]:List ax).length 1=true:=rfl;have rp:=uf (n:=n) (land:=land) (old:=[id]) (lots:=[ax.mk T.id to T.area T.from_]) h (by omega) (by simp) (fun t ht=>by
  have:t=ax.mk T.id to T.area T.from_:=by simpa using ht
  subst this;exact⟨by show T.area.length<=900;omega,by show T.from_.length<=10000;omega⟩) (by simp) hn
 simp only[Bool.not_true,cond_false,s2,q2,cond_true,s3,q3,rp,bind_some,aV,aA]
end Go.Proofs
