/-
  What the printed functions of package slices and cmp come to.
-/
import Derived.Test.YtdgealeielbdiaaGreatTD2
open Go.IntKind (i64)
open Option (bind_some)
open List (map_cons mem_cons append_assoc mem_append length_take mem_map all_eq_true mem_singleton nil_append length_append)
open Bool (and_eq_true)
namespace Go.Proofs
open Go.Gb Go.RowKit
abbrev ltI (a b:Int):Bool:=decide (a < b)
theorem cmp_Less_int_eq (a b:Int):cmp_Less_int a b=some (ltI a b):=by
 simp[cmp_Less_int,cmp_isNaN_int]
theorem cmp_Compare_int_eq (a b:Int):cmp_Compare_int a b=some (if a < b then -1 else if b < a then 1 else 0):=by
 by_cases h1:a < b
 ·simp[cmp_Compare_int,cmp_isNaN_int,h1]
 ·by_cases h2:b < a
  ·simp[cmp_Compare_int,cmp_isNaN_int,h1,h2]
  ·simp[cmp_Compare_int,cmp_isNaN_int,h1,h2]
theorem bitsLen_shift {x:Nat} (k:Nat) (h:2 ^ k≤x):Go.Sort.bitsLen x=Go.Sort.bitsLen (x/2 ^ k)+k:=by
 have key:∀ m,Go.Sort.bitsLen x≤m+k↔Go.Sort.bitsLen (x/2 ^ k)≤m:=by
  intro m
  rw[Go.Sort.bitsLen_le_iff,Go.Sort.bitsLen_le_iff,Nat.pow_add,Nat.div_lt_iff_lt_mul (Nat.two_pow_pos k)]
 have h1:=(key (Go.Sort.bitsLen (x/2 ^ k))).2 (Nat.le_refl _)
 have hk:k≤Go.Sort.bitsLen x:=by
  rcases Nat.lt_or_ge (Go.Sort.bitsLen x) k with hlt |hge
  ·have:=(Go.Sort.bitsLen_le_iff x (Go.Sort.bitsLen x)).1 (Nat.le_refl _)
   have h2:2 ^ Go.Sort.bitsLen x≤2 ^ k:=Nat.pow_le_pow_right (by omega) (by omega)
   omega
  ·exact hge
 have h2:=(key (Go.Sort.bitsLen x - k)).1 (by omega)
 omega
theorem u8_nat {v:Nat} (h:v < 256):IntKind.u8.wrap ((v:Nat):Int)=(v:Int):=by
 simp only[IntKind.wrap,IntKind.bits,IntKind.signed,Bool.false_and,Bool.false_eq_true,if_false]
 omega
set_option maxRecDepth 100000 in
theorem bits_Len_eq {x:Nat} (hx:x < 1152921504606846976):bits_Len (x:Int)=some ((Go.Sort.bitsLen x:Nat):Int):=by
 unfold bits_Len bits_Len64
 have tab:∀ v:Fin 256,strAt (⟨#[0,1,2,2,3,3,3,3,4,4,4,4,4,4,4,4,5,5,5,5,5,5,5,5,5,5,5,5,5,5,5,5,6,6,6,6,6,6,6,6,6,6,6,6,6,6,6,6,6,6,6,6,6,6,6,6,6,6,6,6,6,6,6,6,7,7,7,7,7,7,7,7,7,7,7,7,7,7,7,7,7,7,7,7,7,7,7,7,7,7,7,7,7,7,7,7,7,7,7,7,7,7,7,7,7,7,7,7,7,7,7,7,7,7,7,7,7,7,7,7,7,7,7,7,7,7,7,7,8,8,8,8,8,8,8,8,8,8,8,8,8,8,8,8,8,8,8,8,8,8,8,8,8,8,8,8,8,8,8,8,8,8,8,8,8,8,8,8,8,8,8,8,8,8,8,8,8,8,8,8,8,8,8,8,8,8,8,8,8,8,8,8,8,8,8,8,8,8,8,8,8,8,8,8,8,8,8,8,8,8,8,8,8,8,8,8,8,8,8,8,8,8,8,8,8,8,8,8,8,8,8,8,8,8,8,8,8,8,8,8,8,8,8,8,8,8,8,8,8,8,8,8,8,8,8,8]⟩) ((v.val:Nat):Int)=some ((Go.Sort.bitsLen v.val:Nat):Int):=by decide +kernel
 have k32:(decide (0≤32)&&decide (32≤IntKind.u64.bits))=true:=rfl
 have k16:(decide (0≤16)&&decide (16≤IntKind.u64.bits))=true:=rfl
 have k8:(decide (0≤8)&&decide (8≤IntKind.u64.bits))=true:=rfl
 have step:∀ (x k s:Nat),∃ y t:Nat,((bif (decide ((x:Int)≥((2 ^ k:Nat):Int)))then some (((x/2 ^ k:Nat):Int),((s+k:Nat):Int))else some ((x:Int),(s:Int))):Option (Int×Int))=some ((y:Int),(t:Int))∧Go.Sort.bitsLen x+s=Go.Sort.bitsLen y+t∧(y < 2 ^ k∨y=x/2 ^ k)∧t≤s+k:=by
  intro x k s
  by_cases h:2 ^ k≤x
  ·have c:decide ((x:Int)≥((2 ^ k:Nat):Int))=true:=by
    rw[decide_eq_true_eq];omega
   refine⟨x/2 ^ k,s+k,by rw[c];rfl,?_,.inr rfl,Nat.le_refl _⟩
   have:=bitsLen_shift k h
   omega
  ·have c:decide ((x:Int)≥((2 ^ k:Nat):Int))=false:=by
    rw[decide_eq_false_iff_not];omega
   exact⟨x,s,by rw[c];rfl,rfl,.inl (by omega),by omega⟩
 have sh:∀ (v k:Nat),((v:Int)/2 ^ ((k:Nat):Int).toNat)=((v/2 ^ k:Nat):Int):=by
  intro v k
  rw[Int.toNat_natCast]
  push_cast
  rfl
 obtain⟨y1,t1,e1,b1,c1,d1⟩:=step x 32 0
 obtain⟨y2,t2,e2,b2,c2,d2⟩:=step y1 16 t1
 obtain⟨y3,t3,e3,b3,c3,d3⟩:=step y2 8 t2
 have s1:((bif (decide ((x:Int)≥(4294967296:Int)))then bif ((decide (0≤32)&&decide (32≤IntKind.u64.bits)))then some (((x:Int)/2 ^ (32:Int).toNat),(32:Int))else none else some ((x:Int),(0:Int))):Option (Int×Int))=some ((y1:Int),(t1:Int)):=by
  rw[k32,← e1]
  rw[show ((x:Int)/2 ^ (32:Int).toNat)=((x/2 ^ 32:Nat):Int)from sh x 32]
  rfl
 have s2:((bif (decide ((y1:Int)≥(65536:Int)))then bif ((decide (0≤16)&&decide (16≤IntKind.u64.bits)))then some (((y1:Int)/2 ^ (16:Int).toNat),(i64.wrap ((t1:Int)+16)))else none else some ((y1:Int),(t1:Int))):Option (Int×Int))=some ((y2:Int),(t2:Int)):=by
  rw[k16,← e2]
  rw[show ((y1:Int)/2 ^ (16:Int).toNat)=((y1/2 ^ 16:Nat):Int)from sh y1 16,show i64.wrap ((t1:Int)+16)=((t1+16:Nat):Int)from wadd (j:=16) (by omega)]
  rfl
 have s3:((bif (decide ((y2:Int)≥(256:Int)))then bif ((decide (0≤8)&&decide (8≤IntKind.u64.bits)))then some (((y2:Int)/2 ^ (8:Int).toNat),(i64.wrap ((t2:Int)+8)))else none else some ((y2:Int),(t2:Int))):Option (Int×Int))=some ((y3:Int),(t3:Int)):=by
  rw[k8,← e3]
  rw[show ((y2:Int)/2 ^ (8:Int).toNat)=((y2/2 ^ 8:Nat):Int)from sh y2 8,show i64.wrap ((t2:Int)+8)=((t2+8:Nat):Int)from wadd (j:=8) (by omega)]
  rfl
 have hy:y3 < 256:=by
  have q1:(2:Nat) ^ 32=4294967296:=rfl
  have q2:(2:Nat) ^ 16=65536:=rfl
  have q3:(2:Nat) ^ 8=256:=rfl
  rw[q1]at c1
  rw[q2]at c2
  rw[q3]at c3
  omega
 simp only[s1,bind_some,s2,s3]
 rw[u8_nat hy,show strAt _ ((y3:Nat):Int)=_ from tab ⟨y3,hy⟩]
 have hb:Go.Sort.bitsLen y3≤8:=(Go.Sort.bitsLen_le_iff _ _).2 (by simpa using hy)
 simp only[bind_some]
 rw[wrap_nat (by omega),wadd (by omega)]
 congr 2
 omega
theorem nptOk:NptOk sl_nextPowerOfTwo:=by
 intro L h8 hL
 have hb:Go.Sort.bitsLen L≤60:=(Go.Sort.bitsLen_le_iff _ _).2 (by omega)
 have hp:2 ^ Go.Sort.bitsLen L≤2 ^ 60:=Nat.pow_le_pow_right (by omega) hb
 unfold sl_nextPowerOfTwo
 rw[wrap_u64n (by omega),bits_Len_eq hL,bind_some]
 have c:(decide ((0:Int)≤((Go.Sort.bitsLen L:Nat):Int))&&decide (((Go.Sort.bitsLen L:Nat):Int)≤((IntKind.u64.bits:Nat):Int)))=true:=by
  have:((IntKind.u64.bits:Nat):Int)=64:=rfl
  rw[this,and_eq_true,decide_eq_true_eq,decide_eq_true_eq];omega
 rw[c,cond_true,Int.toNat_natCast,Int.one_mul,show ((2:Int) ^ Go.Sort.bitsLen L)=((2 ^ Go.Sort.bitsLen L:Nat):Int)by push_cast;rfl,wrap_u64n (by omega)]
theorem xshOk:XshOk sl_xorshift_Next:=by
 intro r hr
 have c13:(decide (0≤13)&&decide (13≤IntKind.u64.bits))=true:=rfl
 have c7:(decide (0≤7)&&decide (7≤IntKind.u64.bits))=true:=rfl
 have c17:(decide (0≤17)&&decide (17≤IntKind.u64.bits))=true:=rfl
 have sl:∀ (v k:Nat),IntKind.u64.wrap ((v:Int)*2 ^ ((k:Nat):Int).toNat)=((v*2 ^ k%18446744073709551616:Nat):Int):=by
  intro v k
  rw[Int.toNat_natCast,show ((v:Int)*2 ^ k)=((v*2 ^ k:Nat):Int)by push_cast;rfl]
  simp only[IntKind.wrap,IntKind.bits,IntKind.signed,Bool.false_and,Bool.false_eq_true,if_false]
  omega
 have sr:∀ (v k:Nat),((v:Int)/2 ^ ((k:Nat):Int).toNat)=((v/2 ^ k:Nat):Int):=by
  intro v k
  rw[Int.toNat_natCast];push_cast;rfl
 have ha:r ^^^ (r*2 ^ 13%18446744073709551616) < 18446744073709551616:=Nat.xor_lt_two_pow (n:=64) (by omega) (by omega)
 have hb:(r ^^^ (r*2 ^ 13%18446744073709551616)) ^^^ ((r ^^^ (r*2 ^ 13%18446744073709551616))/2 ^ 7) < 18446744073709551616:=Nat.xor_lt_two_pow (n:=64) (by omega) (by omega)
 unfold sl_xorshift_Next
 rw[c13,c7,c17]
 simp only[cond_true]
 rw[show IntKind.u64.wrap ((r:Int)*2 ^ (13:Int).toNat)=((r*2 ^ 13%18446744073709551616:Nat):Int)from sl r 13,bits_xor hr (by omega)]
 rw[show (((r ^^^ (r*2 ^ 13%18446744073709551616):Nat):Int)/2 ^ (7:Int).toNat)=_ from sr _ 7,bits_xor ha (by omega)]
 rw[show IntKind.u64.wrap (((((r ^^^ (r*2 ^ 13%18446744073709551616)) ^^^ ((r ^^^ (r*2 ^ 13%18446744073709551616))/2 ^ 7):Nat)):Int)*2 ^ (17:Int).toNat)=_ from sl _ 17,bits_xor hb (by omega)]
 rfl
theorem swo_ltI:Go.Sort.SWO ltI where
 irrefl x:=by simp[ltI]
 trans x y z h1 h2:=by simp only[ltI,decide_eq_true_eq]at *;omega
 ntrans x y z h1 h2:=by simp only[ltI,decide_eq_false_iff_not]at *;omega
theorem sorted_eq:∀ {l m:List Int},l.Perm m→l.Pairwise (fun x y=>ltI y x=false)→m.Pairwise (fun x y=>ltI y x=false)→l=m
 |[],m,h,_,_=>(List.nil_perm.1 h).symm
 |x::l,[],h,_,_=>by have:=h.length_eq;simp at this
 |x::l,y::m,h,h1,h2=>by
  have e:x=y:=by
   rw[List.pairwise_cons]at h1 h2
   have m1:x∈y::m:=h.mem_iff.1 List.mem_cons_self
   have m2:y∈x::l:=h.mem_iff.2 List.mem_cons_self
   rcases mem_cons.1 m1 with e |m1
   ·exact e
   ·rcases mem_cons.1 m2 with e |m2
    ·exact e.symm
    ·have a:=h1.1 y m2
     have b:=h2.1 x m1
     simp only[ltI,decide_eq_false_iff_not]at a b
     omega
  subst e
  rw[List.pairwise_cons]at h1 h2
  rw[sorted_eq (List.Perm.cons_inv h) h1.2 h2.2]
theorem insRev_perm {α:Type} (lt:α→α→Bool) (x:α):∀ ys:List α,(insRev lt x ys).Perm (x::ys)
 |[]=>List.Perm.refl _
 |y::ys=>by
  simp only[insRev]
  cases lt x y with
  |true=>exact ((insRev_perm lt x ys).cons y).trans (List.Perm.swap x y ys)
  |false=>exact List.Perm.refl _
theorem isort_perm {α:Type} (lt:α→α→Bool) (l:List α):(isort lt l).Perm l:=by
 have gen:∀ (xs rs:List α),(xs.foldl (fun rs x=>insRev lt x rs) rs).Perm (xs++rs):=by
  intro xs
  induction xs with
  |nil=>intro rs;exact List.Perm.refl _
  |cons x xs ih=>
   intro rs
   refine (ih _).trans ?_
   refine ((insRev_perm lt x rs).append_left xs).trans ?_
   exact List.perm_middle
 unfold isort
 exact (List.reverse_perm _).trans (by simpa using gen l [])
theorem insRev_sorted {α:Type} {lt:α→α→Bool} (hS:Go.Sort.SWO lt) (x:α):∀ ys:List α,ys.Pairwise (fun a b=>lt a b=false)→(insRev lt x ys).Pairwise fun a b=>lt a b=false
 |[],_=>by simp[insRev]
 |y::ys,h=>by
  have h':=List.pairwise_cons.1 h
  simp only[insRev]
  cases hxy:lt x y with
  |true=>
   rw[cond_true,List.pairwise_cons]
   refine⟨fun z hz=>?_,insRev_sorted hS x ys h'.2⟩
   rcases mem_cons.1 ((insRev_perm lt x ys).mem_iff.1 hz)with rfl |hz
   ·cases hyx:lt y z with
    |false=>rfl
    |true=>have:=hS.trans _ _ _ hxy hyx;rw[hS.irrefl]at this;cases this
   ·exact h'.1 z hz
  |false=>
   rw[cond_false,List.pairwise_cons]
   refine⟨fun z hz=>?_,h⟩
   rcases mem_cons.1 hz with rfl |hz
   ·exact hxy
   ·exact hS.ntrans _ _ _ hxy (h'.1 z hz)
theorem isort_sorted {α:Type} {lt:α→α→Bool} (hS:Go.Sort.SWO lt) (l:List α):(isort lt l).Pairwise fun x y=>lt y x=false:=by
 have gen:∀ (xs rs:List α),rs.Pairwise (fun a b=>lt a b=false)→(xs.foldl (fun rs x=>insRev lt x rs) rs).Pairwise fun a b=>lt a b=false:=by
  intro xs
  induction xs with
  |nil=>intro rs h;exact h
  |cons x xs ih=>intro rs h;exact ih _ (insRev_sorted hS x rs h)
 unfold isort
 rw[List.pairwise_reverse]
 exact gen l [] List.Pairwise.nil
theorem sortG_int (l:List Int):sortG ltI l=isort ltI l:=
 sorted_eq ((sortG_perm swo_ltI l).trans (isort_perm ltI l).symm) (sortG_sorted swo_ltI l) (isort_sorted swo_ltI l)
theorem pdqm_int (n:Nat):∀ m,sl_pdqsortOrdered_int_m n m=gPdqsort_m cmp_Less_int (fun r=>r) sl_nextPowerOfTwo sl_xorshift_Next n m
 | 0=>rfl
 |m+1=>by
  show sl_pdqsortOrdered_int_b n (sl_pdqsortOrdered_int_m n m)=gPdqsort_b cmp_Less_int (fun r=>r) sl_nextPowerOfTwo sl_xorshift_Next n (gPdqsort_m cmp_Less_int (fun r=>r) sl_nextPowerOfTwo sl_xorshift_Next n m)
  rw[pdqm_int n m]
  generalize gPdqsort_m cmp_Less_int (fun r=>r) sl_nextPowerOfTwo sl_xorshift_Next n m=rc
  kernel_rfl
theorem sl_Sort_int_eq {n:Nat} {l:List Int} (hl:l.length < 1099511627776) (hn:l.length < n):sl_Sort_int n l=some (isort ltI l):=by
 unfold sl_Sort_int sl_pdqsortOrdered_int
 rw[wrap_u64n (by omega),bits_Len_eq (by omega),pdqm_int]
 simp only[bind_some,eqL_self,cond_true]
 rw[gPdqsort_sorts (lt:=ltI) swo_ltI (f:=ltI) (q:=fun r=>r) cmp_Less_int_eq (fun _ _=>rfl) nptOk xshOk (by omega) hn hn,sortG_int]
 rfl
theorem sl_Compact_int_eq {n:Nat} {l:List Int} (hl:l.length < 1099511627776) (hn:l.length < n):sl_Compact_int n l=some ((),compactL l):=by
 rw[← cptG_int]
 exact gsCompact_run (eq:=fun x y=>x==y) (ne:=fun x y=>x != y) (fun x y=>by simp[bne]) hl hn
theorem sl_Index_int_eq {n:Nat} {l:List Int} {a:Int} (hl:l.length < 1099511627776) (hn:l.length < n):sl_Index_int n l a=some (idxL (fun x=>a==x) l):=gsIndex_run hl hn
theorem sl_Contains_int_eq {n:Nat} {l:List Int} {a:Int} (hl:l.length < 1099511627776) (hn:l.length < n):sl_Contains_int n l a=some (l.any fun x=>a==x):=by
 unfold sl_Contains_int
 rw[sl_Index_int_eq hl hn,bind_some,idxL_ge]
theorem sl_Clone_Rect_eq {l:List GRect} (h:l.length < 1099511627776):sl_Clone_Rect l=some l:=gsClone_run (b:=32) (by omega) (by simp only[maxLen];omega)
theorem sl_Clone_int_eq {l:List Int} (h:l.length < 1099511627776):sl_Clone_int l=some l:=gsClone_run (b:=8) (by omega) (by simp only[maxLen];omega)
theorem sl_Concat_Rect_eq {n:Nat} {l:List (List GRect)} (hf:l.flatten.length < 1099511627776) (hl:l.length < 1099511627776) (hn:l.length < n):sl_Concat_Rect n l=some l.flatten:=gsConcat_run (GRect.mk 0 0 0 0) (b:=32) hf (by omega) hl hn
theorem sl_Equal_Rect_eq {n:Nat} {a b:List GRect} (hl:a.length < 1099511627776) (hn:a.length < n):sl_Equal_Rect n a b=some (decide (a=b)):=by
 have e:sl_Equal_Rect n a b=gsEqual n (fun x1 x2:GRect=>!((x1.x0==(x2.x0:Int))&&((x1.y0==(x2.y0:Int))&&((x1.x1==(x2.x1:Int))&&((x1.y1==(x2.y1:Int))&&true))))) a b:=by kernel_rfl
 rw[e]
 refine gsEqual_run (fun x y=>?_) hl hn
 obtain⟨a,b,c,d⟩:=x
 obtain⟨e,f,g,h⟩:=y
 simp only[GRect.mk.injEq,Bool.and_true]
 rw[Bool.eq_iff_iff]
 simp
theorem sl_Equal_span_eq {n:Nat} {a b:List Gspan} (hl:a.length < 1099511627776) (hn:a.length < n):sl_Equal_span n a b=some (decide (a=b)):=by
 have e:sl_Equal_span n a b=gsEqual n (fun x1 x2:Gspan=>!((x1.from_==(x2.from_:Int))&&((x1.to==(x2.to:Int))&&true))) a b:=by kernel_rfl
 rw[e]
 refine gsEqual_run (fun x y=>?_) hl hn
 obtain⟨a,b⟩:=x
 obtain⟨c,d⟩:=y
 simp only[Gspan.mk.injEq,Bool.and_true]
 rw[Bool.eq_iff_iff]
 simp
abbrev ltS (a b:Gspan):Bool:=decide (a.from_ < b.from_)
theorem swo_ltS:Go.Sort.SWO ltS where
 irrefl x:=by simp[ltS]
 trans x y z h1 h2:=by simp only[ltS,decide_eq_true_eq]at *;omega
 ntrans x y z h1 h2:=by simp only[ltS,decide_eq_false_iff_not]at *;omega
instance:Inhabited Gspan:=⟨⟨0,0⟩⟩
theorem pdqb_span (n:Nat) (rc:List Gspan→Int→Int→Int→((Gspan×Gspan×Unit)→Option Int)→Option (List Gspan)) (φ:(Gspan×Gspan×Unit)→Option Int) (l:List Gspan) (a b d:Int):sl_pdqsortCmpFunc_span_b n rc l a b d φ=gPdqsort_b (fun x y=>φ (x,y,())) (fun r=>decide (r < 0)) sl_nextPowerOfTwo sl_xorshift_Next n (fun l a b d=>rc l a b d φ) l a b d:=by kernel_rfl
theorem pdqm_span (n:Nat) (φ:(Gspan×Gspan×Unit)→Option Int):∀ m l a b d,sl_pdqsortCmpFunc_span_m n m l a b d φ=gPdqsort_m (fun x y=>φ (x,y,())) (fun r=>decide (r < 0)) sl_nextPowerOfTwo sl_xorshift_Next n m l a b d
 | 0,l,a,b,d=>rfl
 |m+1,l,a,b,d=>by
  have e:(fun l a b d=>sl_pdqsortCmpFunc_span_m n m l a b d φ)=gPdqsort_m (fun x y=>φ (x,y,())) (fun r=>decide (r < 0)) sl_nextPowerOfTwo sl_xorshift_Next n m:=by
   funext l a b d
   exact pdqm_span n φ m l a b d
  show sl_pdqsortCmpFunc_span_b n (sl_pdqsortCmpFunc_span_m n m) l a b d φ=gPdqsort_b (fun x y=>φ (x,y,())) (fun r=>decide (r < 0)) sl_nextPowerOfTwo sl_xorshift_Next n (gPdqsort_m (fun x y=>φ (x,y,())) (fun r=>decide (r < 0)) sl_nextPowerOfTwo sl_xorshift_Next n m) l a b d
  rw[← e]
  exact pdqb_span n (sl_pdqsortCmpFunc_span_m n m) φ l a b d
theorem sl_SortFunc_span_eq {n:Nat} {l:List Gspan} {φ:(Gspan×Gspan×Unit)→Option Int} (f:Gspan→Gspan→Int) (hφ:∀ x y,φ (x,y,())=some (f x y)) (hf:∀ x y,decide (f x y < 0)=ltS x y) (hl:l.length < 1099511627776) (hn:l.length < n):sl_SortFunc_span n l φ=some (sortG ltS l):=by
 unfold sl_SortFunc_span sl_pdqsortCmpFunc_span
 rw[wrap_u64n (by omega),bits_Len_eq (by omega)]
 simp only[bind_some,eqL_self,cond_true,pdqm_span]
 rw[gPdqsort_sorts (lt:=ltS) swo_ltS (f:=f) (q:=fun r=>decide (r < 0)) hφ hf nptOk xshOk (by omega) hn hn]
 rfl
end Go.Proofs
namespace Go.Proofs
open Go.Gb Go.RowKit
def mrg (out:List Gspan) (s:Gspan):List Gspan:=
 match out.getLast? with
 |some q=>bif decide (s.from_≤q.to)then out.dropLast++[⟨q.from_,max q.to s.to⟩]else out++[s]
 |none=>[s]
theorem length_mrg (out:List Gspan) (s:Gspan):(mrg out s).length≤out.length+1:=by
 unfold mrg
 cases out.getLast? with
 |none=>simp
 |some q=>simp only;cases decide (s.from_≤q.to)<;>simp<;>omega
theorem mrg_concat (o:List Gspan) (q s:Gspan):mrg (o++[q]) s=bif decide (s.from_≤q.to)then o++[⟨q.from_,max q.to s.to⟩]else o++[q]++[s]:=by
 simp[mrg]
abbrev OkS (s:Gspan):Prop:=s.from_ < s.to
def inS (l:List Gspan) (y:Int):Bool:=l.any fun s=>decide (s.from_≤y)&&decide (y < s.to)
def Can (l:List Gspan):Prop:=l.Pairwise (fun a b=>a.to < b.from_)∧∀ s∈l,OkS s
theorem inS_iff (l:List Gspan) (y:Int):inS l y=true↔∃ s∈l,s.from_≤y∧y < s.to:=by simp[inS]
theorem inS_append (l m:List Gspan) (y:Int):inS (l++m) y=(inS l y || inS m y):=by simp[inS]
theorem inS_nil (y:Int):inS [] y=false:=rfl
theorem inS_cons (s:Gspan) (l:List Gspan) (y:Int):inS (s::l) y=((decide (s.from_≤y)&&decide (y < s.to)) || inS l y):=by simp[inS]
theorem inS_perm {l m:List Gspan} (h:l.Perm m) (y:Int):inS l y=inS m y:=by
 rw[Bool.eq_iff_iff,inS_iff,inS_iff]
 exact⟨fun ⟨s,hs,h1⟩=>⟨s,h.mem_iff.1 hs,h1⟩,fun⟨s,hs,h1⟩=>⟨s,h.mem_iff.2 hs,h1⟩⟩
theorem can_nil:Can []:=⟨List.Pairwise.nil,by simp⟩
theorem mrg_spec {out:List Gspan} {s:Gspan} (hc:Can out) (hs:OkS s) (hb:∀ o∈out,o.from_≤s.from_):
 Can (mrg out s)∧(∀ o∈mrg out s,o.from_≤s.from_)∧∀ y,inS (mrg out s) y=(inS out y || inS [s] y):=by
 rcases List.eq_nil_or_concat out with rfl |⟨o,q,rfl⟩
 ·refine⟨⟨by simp[mrg],by simp[mrg];exact hs⟩,by simp[mrg],fun y=>by simp[mrg,inS]⟩
 ·rw[List.concat_eq_append]at*
  obtain⟨h1,h2⟩:=hc
  rw[List.pairwise_append]at h1
  obtain⟨p1,_,p3⟩:=h1
  have hq:OkS q:=h2 q (by simp)
  have hqs:q.from_≤s.from_:=hb q (by simp)
  rw[mrg_concat]
  by_cases hj:s.from_≤q.to
  ·simp only[hj,decide_true,cond_true]
   refine⟨⟨?_,?_⟩,?_,?_⟩
   ·rw[List.pairwise_append]
    refine⟨p1,by simp,fun a ha b hb'=>?_⟩
    rw[mem_singleton]at hb'
    subst hb'
    exact p3 a ha q (by simp)
   ·intro a ha
    rcases mem_append.1 ha with ha |ha
    ·exact h2 a (by simp[ha])
    ·rw[mem_singleton]at ha
     subst ha
     show q.from_ < max q.to s.to
     have:q.from_ < q.to:=hq
     omega
   ·intro a ha
    rcases mem_append.1 ha with ha |ha
    ·exact hb a (by simp[ha])
    ·rw[mem_singleton]at ha
     subst ha
     exact hqs
   ·intro y
    rw[inS_append,inS_append,Bool.or_assoc]
    congr 1
    simp only[inS_cons,inS_nil,Bool.or_false]
    rw[Bool.eq_iff_iff]
    simp only[and_eq_true,Bool.or_eq_true,decide_eq_true_eq]
    have:q.from_ < q.to:=hq
    have:s.from_ < s.to:=hs
    omega
  ·simp only[hj,decide_false,cond_false]
   refine⟨⟨?_,?_⟩,?_,?_⟩
   ·rw[List.pairwise_append]
    refine⟨?_,by simp,fun a ha b hb'=>?_⟩
    ·rw[List.pairwise_append]
     exact⟨p1,by simp,p3⟩
    ·rw[mem_singleton]at hb'
     subst hb'
     rcases mem_append.1 ha with ha |ha
     ·have:=p3 a ha q (by simp)
      have:q.from_ < q.to:=hq
      omega
     ·rw[mem_singleton]at ha
      subst ha
      omega
   ·intro a ha
    rcases mem_append.1 ha with ha |ha
    ·exact h2 a ha
    ·rw[mem_singleton]at ha
     subst ha
     exact hs
   ·intro a ha
    rcases mem_append.1 ha with ha |ha
    ·exact hb a ha
    ·rw[mem_singleton]at ha
     subst ha
     exact Int.le_refl _
   ·intro y
    rw[inS_append]
theorem foldl_mrg:∀ (l out:List Gspan),Can out→(∀ s∈l,OkS s)→l.Pairwise (fun x y=>x.from_≤y.from_)→(∀ o∈out,∀ s∈l,o.from_≤s.from_)→Can (l.foldl mrg out)∧∀ y,inS (l.foldl mrg out) y=(inS out y || inS l y)
 |[],out,hc,_,_,_=>⟨hc,fun y=>by simp[inS_nil]⟩
 |s::l,out,hc,hv,hp,hb=>by
  rw[List.pairwise_cons]at hp
  obtain⟨m1,m2,m3⟩:=mrg_spec hc (hv s (by simp)) (fun o ho=>hb o ho s (by simp))
  obtain⟨f1,f2⟩:=foldl_mrg l (mrg out s) m1 (fun t ht=>hv t (by simp[ht])) hp.2 (fun o ho t ht=>Int.le_trans (m2 o ho) (hp.1 t ht))
  refine⟨f1,fun y=>?_⟩
  rw[List.foldl_cons,f2,m3,Bool.or_assoc,← inS_append]
  rfl
theorem can_tail {a:Gspan} {l:List Gspan} (h:Can (a::l)):Can l:=⟨(List.pairwise_cons.1 h.1).2,fun s hs=>h.2 s (by simp[hs])⟩
theorem can_above {a:Gspan} {l:List Gspan} (h:Can (a::l)) {y:Int} (hy:inS l y=true):a.to < y:=by
 obtain⟨s,hs,h1,_⟩:=(inS_iff _ _).1 hy
 have:=(List.pairwise_cons.1 h.1).1 s hs
 omega
theorem can_first {a:Gspan} {l:List Gspan} (h:Can (a::l)) {y:Int} (hy:inS (a::l) y=true):a.from_≤y:=by
 rw[inS_cons,Bool.or_eq_true]at hy
 rcases hy with hy |hy
 ·simp only[and_eq_true,decide_eq_true_eq]at hy;exact hy.1
 ·have:=can_above h hy
  have:a.from_ < a.to:=h.2 a (by simp)
  omega
theorem can_unique:∀ {l m:List Gspan},Can l→Can m→(∀ y,inS l y=inS m y)→l=m
 |[],[],_,_,_=>rfl
 |[],b::m,_,hm,h=>by
  have:=h b.from_
  have hb:b.from_ < b.to:=hm.2 b (by simp)
  rw[inS_nil,inS_cons]at this
  simp[hb]at this
 |a::l,[],hl,_,h=>by
  have:=h a.from_
  have ha:a.from_ < a.to:=hl.2 a (by simp)
  rw[inS_nil,inS_cons]at this
  simp[ha]at this
 |a::l,b::m,hl,hm,h=>by
  have ha:a.from_ < a.to:=hl.2 a (by simp)
  have hb:b.from_ < b.to:=hm.2 b (by simp)
  have ina:inS (a::l) a.from_=true:=by rw[inS_cons];simp[ha]
  have inb':inS (b::m) b.from_=true:=by rw[inS_cons];simp[hb]
  have e1:a.from_=b.from_:=by
   have h1:=can_first hm (by rw[← h];exact ina)
   have h2:=can_first hl (by rw[h];exact inb')
   omega
  have nl:∀ (c:Gspan) (k:List Gspan),Can (c::k)→inS (c::k) c.to=false:=by
   intro c k hk
   cases hc:inS (c::k) c.to with
   |false=>rfl
   |true=>
    rw[inS_cons,Bool.or_eq_true]at hc
    rcases hc with hc |hc
    ·simp at hc
    ·have:=can_above hk hc;omega
  have e2:a.to=b.to:=by
   rcases Int.lt_trichotomy a.to b.to with hlt |he |hlt
   ·have h1:=nl a l hl
    rw[h,inS_cons]at h1
    simp only[Bool.or_eq_false_iff,Bool.and_eq_false_iff,decide_eq_false_iff_not]at h1
    omega
   ·exact he
   ·have h1:=nl b m hm
    rw[← h,inS_cons]at h1
    simp only[Bool.or_eq_false_iff,Bool.and_eq_false_iff,decide_eq_false_iff_not]at h1
    omega
  have e:a=b:=by cases a;cases b;simp only at e1 e2;rw[e1,e2]
  subst e
  rw[can_unique (can_tail hl) (can_tail hm) fun y=>?_]
  have hy:=h y
  rw[inS_cons,inS_cons]at hy
  cases h1:inS l y with
  |true=>
   have:=can_above hl h1
   have z:(decide (a.from_≤y)&&decide (y < a.to))=false:=by
    rw[Bool.and_eq_false_iff,decide_eq_false_iff_not,decide_eq_false_iff_not];omega
   rw[z,h1,Bool.false_or,Bool.false_or]at hy
   rw[← hy]
  |false=>
   cases h2:inS m y with
   |false=>rfl
   |true=>
    have:=can_above hm h2
    have z:(decide (a.from_≤y)&&decide (y < a.to))=false:=by
     rw[Bool.and_eq_false_iff,decide_eq_false_iff_not,decide_eq_false_iff_not];omega
    rw[z,h1,h2]at hy
    simp at hy
def colS (l:List Gspan):List Gspan:=(isort ltS l).foldl mrg []
theorem ltS_le {l:List Gspan} (h:l.Pairwise fun x y=>ltS y x=false):l.Pairwise fun x y=>x.from_≤y.from_:=
 h.imp fun {x y} hxy=>by simp only[ltS,decide_eq_false_iff_not]at hxy;omega
theorem colS_spec {l:List Gspan} (h:∀ s∈l,OkS s):Can (colS l)∧∀ y,inS (colS l) y=inS l y:=by
 have hp:=isort_perm ltS l
 obtain⟨h1,h2⟩:=foldl_mrg (isort ltS l) [] can_nil (fun s hs=>h s (hp.mem_iff.1 hs)) (ltS_le (isort_sorted swo_ltS l)) (by simp)
 exact⟨h1,fun y=>by rw[colS,h2,inS_nil,Bool.false_or,inS_perm hp]⟩
theorem sortG_col {l:List Gspan} (h:∀ s∈l,OkS s):(sortG ltS l).foldl mrg []=colS l:=by
 have hp:=sortG_perm swo_ltS l
 obtain⟨h1,h2⟩:=foldl_mrg (sortG ltS l) [] can_nil (fun s hs=>h s (hp.mem_iff.1 hs)) (ltS_le (sortG_sorted swo_ltS l)) (by simp)
 obtain⟨h3,h4⟩:=colS_spec h
 exact can_unique h1 h3 fun y=>by rw[h2,inS_nil,Bool.false_or,inS_perm hp,h4]
theorem length_colS (l:List Gspan):(colS l).length≤l.length:=by
 have:∀ (ys out:List Gspan),(ys.foldl mrg out).length≤out.length+ys.length:=by
  intro ys
  induction ys with
  |nil=>intro out;simp
  |cons y ys ih=>
   intro out
   simp only[List.foldl_cons,List.length_cons]
   have:=ih (mrg out y);have:=length_mrg out y;omega
 have h:=this (isort ltS l) []
 rw[length_isort]at h
 simpa[colS]using h
end Go.Proofs
namespace Go.Proofs
open Go.Gb Go.RowKit
abbrev OkR (r:GRect):Bool:=decide (0≤r.x0)&&(decide (r.x0 < r.x1)&&(decide (r.x1≤1048576)&&(decide (0≤r.y0)&&(decide (r.y0 < r.y1)&&decide (r.y1≤1048576)))))
theorem bifand (a b:Bool):(bif a then some b else some false)=some (a&&b):=by cases a<;>rfl
theorem r_Right_eq (r:GRect):r_Right r=some (OkR r):=by
 simp only[r_Right,bifand]
def spansAt (l:List GRect) (x:Int):List Gspan:=(l.filter fun r=>decide (r.x0≤x)&&decide (x < r.x1)).map fun r=>⟨r.y0,r.y1⟩
def columnL (l:List GRect) (x:Int):List Gspan:=colS (spansAt l x)
theorem length_spansAt (l:List GRect) (x:Int):(spansAt l x).length≤l.length:=by
 simp only[spansAt,List.length_map];exact List.length_filter_le _ _
theorem length_columnL (l:List GRect) (x:Int):(columnL l x).length≤l.length:=
 Nat.le_trans (length_colS _) (length_spansAt l x)
theorem okR_x {r:GRect} (h:OkR r=true):r.x0 < r.x1:=by simp only[OkR,and_eq_true,decide_eq_true_eq]at h;omega
theorem okR_y {r:GRect} (h:OkR r=true):r.y0 < r.y1:=by simp only[OkR,and_eq_true,decide_eq_true_eq]at h;omega
theorem spansAt_ok {l:List GRect} (h:∀ r∈l,OkR r=true) (x:Int):∀ s∈spansAt l x,OkS s:=by
 intro s hs
 simp only[spansAt,mem_map,List.mem_filter]at hs
 obtain⟨r,⟨hr,_⟩,rfl⟩:=hs
 exact okR_y (h r hr)
theorem rg_column_s1_run {l:List GRect} {x:Int} (hl:l.length < 1099511627776) {n:Nat} (hn:l.length < n):iter (rg_column_s1 l x) n ((0:Int),([]:List Gspan))=some (spansAt l x):=by
 have:=iter_foldI (l:=l) (step:=rg_column_s1 l x) (fun i (s:List Gspan)=>((i:Int),s)) (fun r s=>bif decide (r.x0≤x)&&decide (x < r.x1)then s++[⟨r.y0,r.y1⟩]else s) (fun s=>s) (fun i s=>s.length≤i)
  (fun i hi s hs=>?_) (fun s hs=>by simp[rg_column_s1]) n hn [] (Nat.le_refl _)
 ·rw[show ((0:Nat):Int)=0 from rfl]at this
  rw[this]
  congr 1
  have gen:∀ (ys:List GRect) (s:List Gspan),ys.foldl (fun s r=>bif decide (r.x0≤x)&&decide (x < r.x1)then s++[⟨r.y0,r.y1⟩]else s) s=s++spansAt ys x:=by
   intro ys
   induction ys with
   |nil=>intro s;simp[spansAt]
   |cons y ys ih=>
    intro s
    simp only[List.foldl_cons,ih]
    cases h:(decide (y.x0≤x)&&decide (x < y.x1))with
    |true=>simp[spansAt,h]
    |false=>simp[spansAt,h]
  simpa using gen l []
 ·have hi':decide (((i:Nat):Int) < (l.length:Int))=true:=by simpa using hi
  have ap:appOk s.length s.length (sub ([(Gspan.mk l[i].y0 l[i].y1)]:List Gspan) 0 1).length 1 16=true:=appOk_true (n:=1) (by omega) (by simp only[maxLen];omega)
  simp only[rg_column_s1,hi',cond_true,at_get hi,bind_some,bifand]
  cases h:(decide (l[i].x0≤x)&&decide (x < l[i].x1))with
  |true=>
   simp only[cond_true,ap,letv_eq,eqL_self,bind_some]
   refine⟨?_,by simp;omega⟩
   rw[wrap_succ (by omega)];rfl
  |false=>
   simp only[cond_false,eqL_self,cond_true,bind_some]
   exact⟨by rw[wrap_succ (by omega)],by omega⟩
theorem rg_column_s2_run {n:Nat} (w1 r2:List Gspan) (hw:w1.length=r2.length) (hl:r2.length < 1099511627776) (hn:r2.length < n):iter (rg_column_s2 w1 r2) n ((0:Int),([]:List Gspan))=some (r2.foldl mrg []):=by
 have:=iter_foldI (l:=r2) (step:=rg_column_s2 w1 r2) (fun i (s:List Gspan)=>((i:Int),s)) (fun r s=>mrg s r) (fun s=>s) (fun i s=>s.length≤i)
  (fun i hi s hs=>?_) (fun s hs=>by simp[rg_column_s2,hw]) n hn [] (Nat.le_refl _)
 ·rw[show ((0:Nat):Int)=0 from rfl]at this
  exact this
 ·refine⟨?_,by have:=length_mrg s r2[i];omega⟩
  have hi':decide (((i:Nat):Int) < ((w1.length:Nat):Int))=true:=by simp;omega
  have ib:inb (i:Int) w1.length=true:=inb_get (by omega)
  have ap:appOk s.length s.length (sub ([r2[i]]:List Gspan) 0 1).length 1 16=true:=appOk_true (n:=1) (by omega) (by simp only[maxLen];omega)
  simp only[rg_column_s2,hi',cond_true,ib,at_getz hi,bind_some]
  rcases List.eq_nil_or_concat s with rfl |⟨s0,q,hsq⟩
  ·have d0:decide (((([]:List Gspan).length:Nat):Int)>0)=false:=by simp
   simp only[d0,cond_false,bind_some,ap,cond_true,letv_eq,eqL_self]
   rw[wrap_succ (by omega)]
   rfl
  ·rw[List.concat_eq_append]at hsq
   subst hsq
   have d0:decide (((((s0++[q]).length:Nat):Int))>0)=true:=by simp<;>omega
   have lenq:(s0++[q]).length=s0.length+1:=by simp
   have wp:i64.wrap ((((s0++[q]).length:Nat):Int) - 1)=((s0.length:Nat):Int):=by rw[wrap_pred (by simp) (by omega),lenq];rfl
   have ib2:inb ((s0.length:Nat):Int) (s0++[q]).length=true:=inb_get (by omega)
   have g:at? (s0++[q]) (((0:Nat):Int)+((s0.length:Nat):Int))=some q:=by rw[at_natz];simp
   have z:(((0:Nat):Int)+((s0.length:Nat):Int)).toNat=s0.length:=by simp
   have st:(s0++[q]).set s0.length (Gspan.mk q.from_ (max q.to r2[i].to))=s0++[⟨q.from_,max q.to r2[i].to⟩]:=by simp
   have m:mrg (s0++[q]) r2[i]=bif decide (r2[i].from_≤q.to)then s0++[⟨q.from_,max q.to r2[i].to⟩]else s0++[q]++[r2[i]]:=by
    simp[mrg]
   simp only[d0,cond_true,wp,ib2,g,bind_some,m,z,st]
   cases decide (r2[i].from_≤q.to)with
   |true=>
    have e:eqL (s0++[q]).length (s0++[(⟨q.from_,max q.to r2[i].to⟩:Gspan)]).length=true:=by simp
    simp only[cond_true,e,bind_some,eqL_self]
    rw[wrap_succ (by omega)]
   |false=>
    simp only[cond_false,ap,cond_true,letv_eq,eqL_self,bind_some]
    rw[wrap_succ (by omega)]
    rfl
theorem rg_column_eq {n:Nat} {l:List GRect} {x:Int} (hv:∀ r∈l,OkR r=true) (hl:l.length < 1099511627776) (hn:l.length < n):rg_column n l x=some (columnL l x):=by
 have h1:=length_spansAt l x
 have h2:(sortG ltS (spansAt l x)).length=(spansAt l x).length:=length_sortG swo_ltS _
 unfold rg_column
 simp only[List.length_nil,eqL_self,cond_true,rg_column_s1_run (x:=x) (l:=l) (by omega) (n:=n) (by omega),bind_some]
 rw[sl_SortFunc_span_eq (fun a b=>if a.from_ < b.from_ then -1 else if b.from_ < a.from_ then 1 else 0) (fun a b=>by show rg_column_f1 a b=_;unfold rg_column_f1;rw[cmp_Compare_int_eq];rfl) (fun a b=>by
  by_cases h1:a.from_ < b.from_
  ·simp[h1]
  ·by_cases h2:b.from_ < a.from_<;>simp[h1,h2]) (by omega) (by omega)]
 simp only[bind_some]
 rw[rg_column_s2_run _ _ h2.symm (by omega) (by omega)]
 simp only[bind_some,sub_all,eqL_self,cond_true]
 rw[sortG_col (spansAt_ok hv x)]
 rfl
def edgesL (l:List GRect):List Int:=setL (l.flatMap fun r=>[r.x0,r.x1])
def pairsL {α:Type} (f:Int→Int→α):List Int→List α
 |a::b::l=>f a b::pairsL f (b::l)
 |_=>[]
def stripsL (l:List GRect):List Gstrip:=pairsL (fun a b=>⟨a,b,columnL l a⟩) (edgesL l)
theorem pairsL_get {α:Type} (f:Int→Int→α):∀ (l:List Int),(pairsL f l).length=l.length - 1∧∀ i (h:i+1 < l.length) (h':i < (pairsL f l).length),(pairsL f l)[i]=f l[i] l[i+1]
 |[]=>⟨rfl,fun i h=>by simp at h⟩
 |[a]=>⟨rfl,fun i h=>by simp at h⟩
 |a::b::l=>by
  obtain⟨h1,h2⟩:=pairsL_get f (b::l)
  refine⟨by simp only[pairsL,List.length_cons,h1];simp,fun i h h'=>?_⟩
  cases i with
  |zero=>rfl
  |succ i=>
   simp only[pairsL,List.getElem_cons_succ]
   exact h2 i (by simpa using h) _
theorem flatMap_len (l:List GRect):(l.flatMap fun r=>[r.x0,r.x1]).length=2*l.length:=by
 induction l with
 |nil=>rfl
 |cons x l ih=>simp only[List.flatMap_cons,length_append,ih,List.length_cons,List.length_nil];omega
theorem length_compactL (l:List Int):(compactL l).length≤l.length:=by
 match l with
 |[]=>simp[compactL]
 |[x]=>simp[compactL]
 |x::y::l=>
  have:=length_compactL (y::l)
  simp only[compactL]
  cases x==y<;>simp at* <;>omega
theorem length_edgesL (l:List GRect):(edgesL l).length≤2*l.length:=by
 have h:=length_compactL (isort (fun a b=>decide (a < b)) (l.flatMap fun r=>[r.x0,r.x1]))
 rw[length_isort,flatMap_len]at h
 exact h
theorem rg_strips_s1_run {n:Nat} {l:List GRect} (hl:l.length < 10995116277) (hn:l.length < n):iter (rg_strips_s1 l) n ((0:Int),([]:List Int))=some (l.flatMap fun r=>[r.x0,r.x1]):=by
 have:=iter_foldI (l:=l) (step:=rg_strips_s1 l) (fun i (s:List Int)=>((i:Int),s)) (fun r s=>s++[r.x0,r.x1]) (fun s=>s) (fun i s=>s.length≤2*i)
  (fun i hi s hs=>?_) (fun s hs=>by simp[rg_strips_s1]) n hn [] (Nat.le_refl _)
 ·rw[show ((0:Nat):Int)=0 from rfl]at this
  rw[this]
  have gen:∀ (ys:List GRect) (s:List Int),ys.foldl (fun s r=>s++[r.x0,r.x1]) s=s++ys.flatMap fun r=>[r.x0,r.x1]:=by
   intro ys
   induction ys with
   |nil=>intro s;simp
   |cons y ys ih=>intro s;simp[ih]
  congr 1
  simpa using gen l []
 ·have hi':decide (((i:Nat):Int) < ((l.length:Nat):Int))=true:=by simpa using hi
  have ap:appOk s.length s.length (sub ([l[i].x0,l[i].x1]:List Int) 0 2).length 2 8=true:=appOk_true (n:=2) (by omega) (by simp only[maxLen];omega)
  simp only[rg_strips_s1,hi',cond_true,inb_get hi,at_getz hi,bind_some,ap,letv_eq,eqL_self]
  refine⟨?_,by simp;omega⟩
  rw[wrap_succ (by omega)];rfl
theorem rg_strips_eq {n:Nat} {ls:List (List GRect)} (hv:∀ r∈ls.flatten,OkR r=true) (hl:ls.flatten.length < 10995116277) (hls:ls.length < 1099511627776) (hn:2*ls.flatten.length < n) (hn2:ls.length < n):rg_strips n ls=some (stripsL ls.flatten):=by
 unfold rg_strips
 rw[sl_Concat_Rect_eq (by omega) hls hn2]
 generalize ls.flatten=l at*
 have he:=length_edgesL l
 simp only[bind_some,List.length_nil,eqL_self,cond_true,rg_strips_s1_run (l:=l) (n:=n) (by omega) (by omega)]
 rw[sl_Sort_int_eq (by rw[flatMap_len];omega) (by rw[flatMap_len];omega)]
 simp only[bind_some,length_isort,eqL_self,cond_true]
 rw[sl_Compact_int_eq (by rw[length_isort,flatMap_len];omega) (by rw[length_isort,flatMap_len];omega)]
 simp only[bind_some]
 have hE:compactL (isort ltI (l.flatMap fun r=>[r.x0,r.x1]))=edgesL l:=rfl
 rw[hE]
 obtain⟨p1,p2⟩:=pairsL_get (fun a b=>(⟨a,b,columnL l a⟩:Gstrip)) (edgesL l)
 have key:iter (rg_strips_s2 n l ((),edgesL l)) n ((1:Int),([]:List Gstrip))=some (stripsL l):=by
  have:=iter_to (step:=rg_strips_s2 n l ((),edgesL l)) (fun i=>(((i+1:Nat):Int),(stripsL l).take i)) (stripsL l).length (stripsL l) (fun i hi=>?_) ?_ n (by unfold stripsL;omega)
  ·simpa using this
  ·have hi2:i+1 < (edgesL l).length:=by unfold stripsL at hi;omega
   have d:decide (((i+1:Nat):Int) < (((edgesL l).length:Nat):Int))=true:=by simp;omega
   have wp:i64.wrap (((i+1:Nat):Int) - 1)=((i:Nat):Int):=by rw[wrap_pred (by omega) (by omega)];rfl
   have ap:appOk ((stripsL l).take i).length ((stripsL l).take i).length (sub ([(Gstrip.mk ((edgesL l)[i]'(by omega)) (edgesL l)[i+1] (columnL l ((edgesL l)[i]'(by omega))))]:List Gstrip) 0 1).length 1 40=true:=by
    refine appOk_true (n:=1) ?_ ?_
    ·rw[length_take];unfold stripsL;omega
    ·rw[length_take];unfold stripsL;simp only[maxLen];omega
   have tk:(stripsL l).take (i+1)=(stripsL l).take i++[⟨(edgesL l)[i]'(by omega),(edgesL l)[i+1],columnL l ((edgesL l)[i]'(by omega))⟩]:=by
    rw[List.take_succ_eq_append_getElem hi]
    congr 2
    exact p2 i hi2 hi
   simp only[rg_strips_s2,d,cond_true,wp,inb_get (show i < (edgesL l).length by omega),at_getz (show i < (edgesL l).length by omega),bind_some,inb_get hi2,at_getz hi2,sub_all,eqL_self,rg_column_eq (l:=l) (n:=n) hv (by omega) (by omega),ap,letv_eq]
   rw[wrap_succ (by omega),tk]
   rfl
  ·have d:decide ((((stripsL l).length+1:Nat):Int) < (((edgesL l).length:Nat):Int))=false:=by
    unfold stripsL;simp;omega
   simp only[rg_strips_s2,d,cond_false,List.take_length,eqL_self,cond_true]
 rw[key]
 simp only[bind_some,sub_all,eqL_self,cond_true]
end Go.Proofs
namespace Go.Proofs
open Go.Gb Go.RowKit
def rectsL (x0 x1:Int) (c:List Gspan):List GRect:=c.map fun q=>⟨x0,q.from_,x1,q.to⟩
def wrGo (x0 x1:Int) (c:List Gspan):List Gstrip→List GRect
 |[]=>rectsL x0 x1 c
 |s::l=>if s.column=c then wrGo x0 s.x1 c l else rectsL x0 x1 c++wrGo s.x0 s.x1 s.column l
def writeL:List Gstrip→List GRect
 |[]=>[]
 |s::l=>wrGo s.x0 s.x1 s.column l
theorem wrGo_skip (x0:Int) (c:List Gspan):∀ (l:List Gstrip) (x1:Int) (k:Nat) (hk:k≤l.length),(∀ j (hj:j < k),(l[j]'(by omega)).column=c)→(∀ h:k < l.length,l[k].column≠c)→
 wrGo x0 x1 c l=rectsL x0 (if h:0 < k then (l[k - 1]'(by omega)).x1 else x1) c++writeL (l.drop k)
 |l,x1,0,_,_,h2=>by
  cases l with
  |nil=>simp[wrGo,writeL]
  |cons s l=>
   have:=h2 (by simp)
   simp only[List.getElem_cons_zero]at this
   simp[wrGo,writeL,this]
 |[],x1,k+1,hk,_,_=>by simp at hk
 |s::l,x1,k+1,hk,h1,h2=>by
  have e0:=h1 0 (by omega)
  simp only[List.getElem_cons_zero]at e0
  simp only[wrGo,e0,if_true]
  rw[wrGo_skip x0 c l s.x1 k (by simpa using hk) (fun j hj=>by have:=h1 (j+1) (by omega);simpa using this) (fun h=>by have:=h2 (by simpa using h);simpa using this)]
  simp only[List.drop_succ_cons]
  congr 2
  by_cases hk0:0 < k
  ·simp only[hk0,dite_true,Nat.zero_lt_succ,Nat.add_sub_cancel]
   obtain⟨m,rfl⟩:∃ m,k=m+1:=⟨k - 1,by omega⟩
   simp
  ·have:k=0:=by omega
   subst this
   simp
theorem length_writeL (l:List Gstrip) (b:Nat) (h:∀ s∈l,s.column.length≤b):(writeL l).length≤l.length*b:=by
 have go:∀ (l:List Gstrip) (x0 x1:Int) (c:List Gspan),c.length≤b→(∀ s∈l,s.column.length≤b)→(wrGo x0 x1 c l).length≤(l.length+1)*b:=by
  intro l
  induction l with
  |nil=>intro x0 x1 c hc _;simp only[wrGo,rectsL,List.length_map,List.length_nil];omega
  |cons s l ih=>
   intro x0 x1 c hc hl
   simp only[wrGo]
   split
   ·have:=ih x0 s.x1 c hc (fun t ht=>hl t (List.mem_cons_of_mem _ ht))
    simp only[List.length_cons,Nat.add_mul]at*
    omega
   ·have:=ih s.x0 s.x1 s.column (hl s (by simp)) (fun t ht=>hl t (List.mem_cons_of_mem _ ht))
    simp only[length_append,rectsL,List.length_map,List.length_cons,Nat.add_mul]at*
    omega
 cases l with
 |nil=>simp[writeL]
 |cons s l=>
  simp only[writeL]
  exact go l _ _ _ (h s (by simp)) (fun t ht=>h t (List.mem_cons_of_mem _ ht))
theorem rg_write_s3_run {n:Nat} {l:List Gstrip} {i k:Nat} (hi:i < l.length) (hk1:0 < k) (hk:k≤l.length) (hl:l.length < 10995116277) (x3:Gstrip) (out:List GRect) (ho:out.length < 1099511627776) (hc:x3.column.length < 1099511627776) (hn:x3.column.length < n):
 iter (rg_write_s3 l (i:Int) (k:Int) x3) n ((0:Int),out)=some (out++rectsL l[i].x0 (l[k - 1]'(by omega)).x1 x3.column):=by
 have:=iter_foldI (l:=x3.column) (step:=rg_write_s3 l (i:Int) (k:Int) x3) (fun j (s:List GRect)=>((j:Int),s)) (fun q s=>s++[⟨l[i].x0,q.from_,(l[k - 1]'(by omega)).x1,q.to⟩]) (fun s=>s) (fun j s=>s.length≤out.length+j)
  (fun j hj s hs=>?_) (fun s hs=>by simp[rg_write_s3]) n hn out (Nat.le_refl _)
 ·rw[show ((0:Nat):Int)=0 from rfl]at this
  rw[this]
  have gen:∀ (ys:List Gspan) (s:List GRect),ys.foldl (fun s q=>s++[⟨l[i].x0,q.from_,(l[k - 1]'(by omega)).x1,q.to⟩]) s=s++rectsL l[i].x0 (l[k - 1]'(by omega)).x1 ys:=by
   intro ys
   induction ys with
   |nil=>intro s;simp[rectsL]
   |cons y ys ih=>intro s;simp only[List.foldl_cons,ih];simp[rectsL]
  rw[gen]
 ·have hj':decide (((j:Nat):Int) < (x3.column.length:Int))=true:=by simpa using hj
  have wp:i64.wrap ((k:Int) - 1)=((k - 1:Nat):Int):=wrap_pred hk1 (by omega)
  have ap:appOk s.length s.length (sub ([(GRect.mk l[i].x0 (x3.column[j]).from_ (l[k - 1]'(by omega)).x1 (x3.column[j]).to)]:List GRect) 0 1).length 1 32=true:=appOk_true (n:=1) (by omega) (by simp only[maxLen];omega)
  simp only[rg_write_s3,hj',cond_true,at_get hj,at_get hi,wp,at_get (show k - 1 < l.length by omega),bind_some,ap,letv_eq,eqL_self]
  refine⟨?_,by simp;omega⟩
  rw[wrap_succ (by omega)];rfl
theorem rg_write_eq {n:Nat} {l:List Gstrip} {b:Nat} (hb:b≤100000) (hl:l.length≤100000) (hc:∀ s∈l,s.column.length≤b) (hn:b < n) (hn2:l.length < n):rg_write n l=some (writeL l):=by
 unfold rg_write
 simp only[List.length_nil,eqL_self,cond_true]
 have main:∀ (m i:Nat) (out:List GRect) (k:Nat),i+m=l.length→m < k→out.length≤i*b→iter (rg_write_s1 n l) k ((i:Int),out)=some (out++writeL (l.drop i)):=by
  intro m
  induction m using Nat.strongRecOn with
  |ind m ih=>
   intro i out k him hk ho
   obtain⟨k,rfl⟩:∃ j,k=j+1:=⟨k - 1,by omega⟩
   by_cases hm:m=0
   ·subst hm
    have:i=l.length:=by omega
    subst this
    refine iter_inr ?_
    simp[rg_write_s1,writeL]
   ·have hi:i < l.length:=by omega
    have di:decide (((i:Nat):Int) < (l.length:Int))=true:=by simpa using hi
    obtain⟨q,hq1,hq2,hq3,hq4⟩:∃ q,i < q∧q≤l.length∧(∀ j,i < j→j < q→∀ h:j < l.length,l[j].column=l[i].column)∧(∀ h:q < l.length,l[q].column≠l[i].column):=by
     rcases first_or_none (fun j=>if h:j < l.length then decide (l[j].column≠l[i].column)else false) (i+1) l.length with ⟨q,h1,h2,h3,h4⟩ |h
     ·simp only[h2,dite_true,decide_eq_true_eq]at h3
      refine⟨q,by omega,by omega,fun j hj1 hj2 hj=>?_,fun _=>h3⟩
      have:=h4 j (by omega) hj2
      simp only[hj,dite_true,decide_eq_false_iff_not,ne_eq,Decidable.not_not]at this
      exact this
     ·refine⟨l.length,hi,Nat.le_refl _,fun j hj1 hj2 hj=>?_,fun h=>by omega⟩
      have:=h j (by omega) hj
      simp only[hj,dite_true,decide_eq_false_iff_not,ne_eq,Decidable.not_not]at this
      exact this
    have cl:∀ j (hj:j < l.length),l[j].column.length≤b:=fun j hj=>hc _ (List.getElem_mem hj)
    have r2:iter (rg_write_s2 n l (i:Int)) n (i64.wrap ((i:Int)+1))=some (q:Int):=by
     rw[wrap_succ (by omega)]
     have:=iter_to (step:=rg_write_s2 n l (i:Int)) (fun j=>((i+1+j:Nat):Int)) (q - (i+1)) (q:Int) (fun j hj=>?_) ?_ n (by omega)
     ·simpa using this
     ·have hjl:i+1+j < l.length:=by omega
      have dj:decide (((i+1+j:Nat):Int) < (l.length:Int))=true:=by simp;omega
      have hcc:=cl (i+1+j) hjl
      simp only[rg_write_s2,dj,cond_true,at_get hjl,at_get hi,bind_some]
      rw[sl_Equal_span_eq (by omega) (by omega),hq3 (i+1+j) (by omega) (by omega) hjl]
      simp only[decide_true,bind_some,cond_true]
      rw[wrap_succ (by omega)];rfl
     ·rw[show i+1+(q - (i+1))=q by omega]
      by_cases hql:q < l.length
      ·have dj:decide (((q:Nat):Int) < (l.length:Int))=true:=by simpa using hql
       have hcc:=cl q hql
       simp only[rg_write_s2,dj,cond_true,at_get hql,at_get hi,bind_some]
       rw[sl_Equal_span_eq (by omega) (by omega)]
       simp[hq4 hql]
      ·have dj:decide (((q:Nat):Int) < (l.length:Int))=false:=by simp;omega
       simp only[rg_write_s2,dj,cond_false,bind_some]
    have ob:i*b≤100000*100000:=Nat.mul_le_mul (by omega) hb
    have hci:=cl i hi
    have r3:=rg_write_s3_run (n:=n) hi (show 0 < q by omega) hq2 (by omega) l[i] out (by omega) (by omega) (by omega)
    have step:rg_write_s1 n l ((i:Int),out)=some (.inl ((q:Int),out++rectsL l[i].x0 (l[q - 1]'(by omega)).x1 l[i].column)):=by
     simp only[rg_write_s1,di,cond_true,r2,at_get hi,bind_some,eqL_self,r3]
    rw[iter_inl step,ih (l.length - q) (by omega) q _ k (by omega) (by omega) (by
     rw[length_append,rectsL,List.length_map]
     have:(i+1)*b≤q*b:=Nat.mul_le_mul_right _ (by omega)
     rw[Nat.add_mul]at this
     omega)]
    rw[append_assoc]
    congr 2
    conv=>rhs;rw[List.drop_eq_getElem_cons hi]
    simp only[writeL]
    rw[wrGo_skip l[i].x0 l[i].column (l.drop (i+1)) l[i].x1 (q - (i+1)) (by rw[List.length_drop];omega) (fun j hj=>by
     rw[List.getElem_drop];exact hq3 _ (by omega) (by omega) (by omega)) (fun h=>by
     rw[List.length_drop]at h
     rw[List.getElem_drop]
     have:=hq4 (by omega)
     have hqq:i+1+(q - (i+1))=q:=by omega
     simp only[hqq];exact this)]
    rw[List.drop_drop,show i+1+(q - (i+1))=q by omega]
    congr 2
    by_cases h0:0 < q - (i+1)
    ·simp only[h0,dite_true,List.getElem_drop]
     congr 2
     omega
    ·simp only[h0,dite_false]
     have:q - 1=i:=by omega
     congr 2
 have:=main l.length 0 [] n (by omega) (by omega) (by simp)
 simp only[Int.natCast_zero,nil_append,List.drop_zero]at this
 rw[this]
 simp
def ofL (l:List GRect):List GRect×Int:=
 if l.all OkR then (if l.length>400 then ([],6)else if (writeL (stripsL l)).length>200 then ([],6)else (writeL (stripsL l),0))else ([],1)
def rightL (l:List GRect):Bool:=decide ((ofL l).2=0)&&decide ((ofL l).1=l)
theorem stripsL_col {l:List GRect} {s:Gstrip} (h:s∈stripsL l):s.column.length≤l.length:=by
 obtain⟨i,hi,rfl⟩:=List.getElem_of_mem h
 obtain⟨p1,p2⟩:=pairsL_get (fun a b=>(⟨a,b,columnL l a⟩:Gstrip)) (edgesL l)
 have:(stripsL l)[i]=⟨(edgesL l)[i]'(by unfold stripsL at hi;omega),(edgesL l)[i+1]'(by unfold stripsL at hi;omega),columnL l ((edgesL l)[i]'(by unfold stripsL at hi;omega))⟩:=p2 i (by unfold stripsL at hi;omega) hi
 rw[this]
 exact length_columnL l _
theorem length_stripsL (l:List GRect):(stripsL l).length≤2*l.length:=by
 obtain⟨p1,_⟩:=pairsL_get (fun a b=>(⟨a,b,columnL l a⟩:Gstrip)) (edgesL l)
 have:=length_edgesL l
 unfold stripsL
 omega
theorem rg_Of_eq {n:Nat} {l:List GRect} (hl:l.length < 1099511627776) (hl2:l.length < n) (hn:1000≤n):rg_Of n l=some (ofL l):=by
 unfold rg_Of
 have h1:=iter_find (l:=l) (step:=rg_Of_s1 l) (fun i=>(i:Int)) (fun r=>!OkR r) () (fun _=>(([]:List GRect),(1:Int))) (fun i hi=>?_) ?_ n (by omega)
 ·rw[show ((0:Nat):Int)=0 from rfl]at h1
  rw[h1]
  have h2:=findL_isSome (fun r=>!OkR r) l
  cases hf:findL (fun r=>!OkR r) l with
  |some i=>
   rw[hf]at h2
   have:l.all OkR=false:=by
    rw[← Bool.not_eq_true,all_eq_true]
    intro hall
    have h3:=h2.symm
    simp only[Option.isSome_some,List.any_eq_true]at h3
    obtain⟨x,hx,hx2⟩:=h3
    rw[hall x hx]at hx2;cases hx2
   simp[ofL,this]
  |none=>
   rw[hf]at h2
   have:l.all OkR=true:=by
    rw[all_eq_true]
    intro x hx
    cases h:OkR x with
    |true=>rfl
    |false=>
     have:l.any (fun r=>!OkR r)=true:=List.any_eq_true.2 ⟨x,hx,by rw[h];rfl⟩
     rw[this]at h2;cases h2
   have hv:∀ r∈l,OkR r=true:=all_eq_true.1 this
   by_cases h400:l.length>400
   ·have d4:decide ((l.length:Int)>400)=true:=by simp;omega
    simp only[thenB_inl,d4,cond_true,ofL,this,if_true,if_pos h400]
   have d4:decide ((l.length:Int)>400)=false:=by simp;omega
   have ls:=length_stripsL l
   simp only[thenB_inl,d4,cond_false]
   have fl:[l].flatten=l:=by simp
   rw[show (sub ([l]:List (List GRect)) 0 1)=[l]from rfl,rg_strips_eq (ls:=[l]) (by rw[fl];exact hv) (by rw[fl];omega) (by simp) (by rw[fl];omega) (by simp;omega),fl]
   simp only[List.length_singleton,eqL_self,cond_true,bind_some,sub_all]
   rw[rg_write_eq (b:=400) (by omega) (by omega) (fun s hs=>Nat.le_trans (stripsL_col hs) (by omega)) (by omega) (by omega)]
   simp only[bind_some,sub_all,eqL_self,cond_true,rg_limited,ofL,this,if_true,if_neg h400]
   by_cases h200:(writeL (stripsL l)).length>200
   ·have:decide (((writeL (stripsL l)).length:Int)>200)=true:=by simp;omega
    simp only[this,cond_true,bind_some,h200,if_true]
   ·have:decide (((writeL (stripsL l)).length:Int)>200)=false:=by simp;omega
    simp only[this,cond_false,bind_some,h200,if_false]
 ·have hi':decide (((i:Nat):Int) < (l.length:Int))=true:=by simpa using hi
  simp only[rg_Of_s1,hi',cond_true,at_get hi,bind_some,r_Right_eq]
  cases OkR l[i]with
  |false=>rfl
  |true=>simp only[Bool.not_true,cond_false];rw[wrap_succ (by omega)]
 ·simp[rg_Of_s1]
theorem rg_Right_eq {n:Nat} {l:List GRect} (hl:l.length < 1099511627776) (hl2:l.length < n) (hn:1000≤n):rg_Right n l=some (rightL l):=by
 unfold rg_Right rightL
 rw[rg_Of_eq hl hl2 hn]
 simp only[bind_some]
 by_cases h:(ofL l).2=0
 ·have e:((ofL l).2==0)=true:=by simp[h]
  have lo:(ofL l).1.length≤200:=by
   unfold ofL
   split
   ·split
    ·simp
    ·split
     ·simp
     ·simp;omega
   ·simp
  by_cases hlen:(ofL l).1.length < n
  ·simp only[e,cond_true,h,decide_true,Bool.true_and]
   rw[sl_Equal_Rect_eq (by omega) hlen];rfl
  ·have:(ofL l).1.length≠l.length:=by omega
   have hne:(ofL l).1≠l:=fun e=>this (by rw[e])
   simp only[e,cond_true,h,decide_true,Bool.true_and]
   unfold sl_Equal_Rect
   have hb:(((ofL l).1.length:Int) != (l.length:Int))=true:=by simp;omega
   rw[hb]
   simp[hne]
 ·have e:((ofL l).2==0)=false:=by simp[h]
  simp[e,h]
end Go.Proofs
namespace Go.Proofs
open Go.Gb Go.RowKit
def cellsL (l:List GRect) (x y:Int):Bool:=l.any fun r=>(decide (r.x0≤x)&&decide (x < r.x1))&&(decide (r.y0≤y)&&decide (y < r.y1))
theorem inS_spansAt (l:List GRect) (x y:Int):inS (spansAt l x) y=cellsL l x y:=by
 induction l with
 |nil=>rfl
 |cons r l ih=>
  unfold spansAt cellsL at*
  rw[List.filter_cons,List.any_cons,← ih]
  cases h:(decide (r.x0≤x)&&decide (x < r.x1))with
  |true=>simp only[if_true,map_cons,Bool.true_and];rw[inS_cons]
  |false=>simp
theorem columnL_spec {l:List GRect} (h:∀ r∈l,OkR r=true) (x:Int):Can (columnL l x)∧∀ y,inS (columnL l x) y=cellsL l x y:=by
 obtain⟨h1,h2⟩:=colS_spec (spansAt_ok h x)
 exact⟨h1,fun y=>by rw[columnL,h2,inS_spansAt]⟩
def Strips:List Gstrip→Prop
 |[]=>True
 |[s]=>s.x0 < s.x1
 |s::t::l=>s.x0 < s.x1∧s.x1=t.x0∧Strips (t::l)
def colAt:List Gstrip→Int→List Gspan
 |[],_=>[]
 |s::l,x=>bif decide (s.x0≤x)&&decide (x < s.x1)then s.column else colAt l x
theorem colAt_cons (s:Gstrip) (l:List Gstrip) (x:Int):colAt (s::l) x=bif decide (s.x0≤x)&&decide (x < s.x1)then s.column else colAt l x:=rfl
def Runs:List Gstrip→Prop
 |[]=>True
 |[s]=>s.x0 < s.x1∧s.column≠[]
 |s::t::l=>(s.x0 < s.x1∧s.column≠[])∧s.x1≤t.x0∧(s.x1=t.x0→s.column≠t.column)∧Runs (t::l)
theorem runs_tail {s:Gstrip} {l:List Gstrip} (h:Runs (s::l)):Runs l:=by
 cases l with
 |nil=>trivial
 |cons t l=>exact h.2.2.2
theorem runs_head {s:Gstrip} {l:List Gstrip} (h:Runs (s::l)):s.x0 < s.x1∧s.column≠[]:=by
 cases l with
 |nil=>exact h
 |cons t l=>exact h.1
theorem runs_before:∀ {l:List Gstrip} {b x:Int},Runs l→(∀ s∈l.head?,b≤s.x0)→x < b→colAt l x=[]
 |[],_,_,_,_,_=>rfl
 |s::l,b,x,h,hb,hx=>by
  have h0:=hb s rfl
  have hs:=runs_head h
  have c:(decide (s.x0≤x)&&decide (x < s.x1))=false:=by
   rw[Bool.and_eq_false_iff,decide_eq_false_iff_not];left;omega
  rw[colAt_cons,c,cond_false]
  refine runs_before (runs_tail h) (b:=s.x1) (fun t ht=>?_) (by omega)
  cases l with
  |nil=>cases ht
  |cons u l=>
   have:t=u:=by simpa using ht.symm
   subst this
   exact h.2.1
theorem runs_at {s:Gstrip} {l:List Gstrip} {x:Int} (h1:s.x0≤x) (h2:x < s.x1):colAt (s::l) x=s.column:=by
 rw[colAt_cons,show (decide (s.x0≤x)&&decide (x < s.x1))=true by simp[h1,h2]];rfl
theorem runs_behind {s:Gstrip} {l:List Gstrip} {x:Int} (h:s.x1≤x):colAt (s::l) x=colAt l x:=by
 rw[colAt_cons,show (decide (s.x0≤x)&&decide (x < s.x1))=false by rw[Bool.and_eq_false_iff,decide_eq_false_iff_not,decide_eq_false_iff_not];right;omega];rfl
theorem runs_end {s:Gstrip} {l:List Gstrip} (h:Runs (s::l)):colAt l s.x1≠s.column:=by
 have hs:=runs_head h
 cases l with
 |nil=>exact fun e=>hs.2 e.symm
 |cons t l=>
  obtain⟨_,h2,h3,h4⟩:=h
  have ht:=runs_head h4
  by_cases e:s.x1=t.x0
  ·rw[runs_at (by omega) (by omega)]
   exact fun e'=>h3 e e'.symm
  ·rw[runs_before h4 (b:=t.x0) (fun u hu=>by have:u=t:=by simpa using hu.symm
                                             subst this;exact Int.le_refl _) (by omega)]
   exact fun e'=>hs.2 e'.symm
theorem runs_unique:∀ {l m:List Gstrip},Runs l→Runs m→(∀ x,colAt l x=colAt m x)→l=m
 |[],[],_,_,_=>rfl
 |[],b::m,_,hm,h=>by
  have hb:=runs_head hm
  have:=h b.x0
  rw[runs_at (Int.le_refl _) hb.1]at this
  exact absurd this.symm hb.2
 |a::l,[],hl,_,h=>by
  have ha:=runs_head hl
  have:=h a.x0
  rw[runs_at (Int.le_refl _) ha.1]at this
  exact absurd this ha.2
 |a::l,b::m,hl,hm,h=>by
  have ha:=runs_head hl
  have hb:=runs_head hm
  have e0:a.x0=b.x0:=by
   rcases Int.lt_trichotomy a.x0 b.x0 with hlt |he |hlt
   ·have:=h a.x0
    rw[runs_at (Int.le_refl _) ha.1,runs_before hm (b:=b.x0) (fun u hu=>by have:u=b:=by simpa using hu.symm
                                                                           subst this;exact Int.le_refl _) hlt]at this
    exact absurd this ha.2
   ·exact he
   ·have:=h b.x0
    rw[runs_at (Int.le_refl _) hb.1,runs_before hl (b:=a.x0) (fun u hu=>by have:u=a:=by simpa using hu.symm
                                                                           subst this;exact Int.le_refl _) hlt]at this
    exact absurd this.symm hb.2
  have ec:a.column=b.column:=by
   have:=h a.x0
   rwa [runs_at (Int.le_refl _) ha.1,runs_at (by omega) (by omega)]at this
  have e1:a.x1=b.x1:=by
   rcases Int.lt_trichotomy a.x1 b.x1 with hlt |he |hlt
   ·have:=h a.x1
    rw[runs_behind (Int.le_refl _),runs_at (by omega) hlt]at this
    exact absurd (this.trans ec.symm) (runs_end hl)
   ·exact he
   ·have:=h b.x1
    rw[runs_behind (s:=b) (Int.le_refl _),runs_at (by omega) hlt]at this
    exact absurd (this.symm.trans ec) (runs_end hm)
  have e:a=b:=by cases a;cases b;simp only at e0 e1 ec;rw[e0,e1,ec]
  subst e
  rw[runs_unique (runs_tail hl) (runs_tail hm) fun x=>?_]
  by_cases hx:x < a.x1
  ·have bl:=runs_before (runs_tail hl) (b:=a.x1) (x:=x) (fun t ht=>by
    cases l with
    |nil=>cases ht
    |cons u l=>
     have:t=u:=by simpa using ht.symm
     subst this
     exact hl.2.1) hx
   have bm:=runs_before (runs_tail hm) (b:=a.x1) (x:=x) (fun t ht=>by
    cases m with
    |nil=>cases ht
    |cons u m=>
     have:t=u:=by simpa using ht.symm
     subst this
     exact hm.2.1) hx
   rw[bl,bm]
  ·have:=h x
   rwa [runs_behind (by omega),runs_behind (by omega)]at this
def oneRun (x0 x1:Int) (c:List Gspan):List Gstrip:=if c=[]then []else [⟨x0,x1,c⟩]
def runGo (x0 x1:Int) (c:List Gspan):List Gstrip→List Gstrip
 |[]=>oneRun x0 x1 c
 |s::l=>if s.column=c then runGo x0 s.x1 c l else oneRun x0 x1 c++runGo s.x0 s.x1 s.column l
def runsL:List Gstrip→List Gstrip
 |[]=>[]
 |s::l=>runGo s.x0 s.x1 s.column l
def rectsOf (l:List Gstrip):List GRect:=l.flatMap fun s=>rectsL s.x0 s.x1 s.column
theorem rectsOf_one (x0 x1:Int) (c:List Gspan):rectsOf (oneRun x0 x1 c)=rectsL x0 x1 c:=by
 unfold oneRun
 split
 ·rename_i h;subst h;rfl
 ·simp[rectsOf]
theorem wrGo_runs:∀ (l:List Gstrip) (x0 x1:Int) (c:List Gspan),wrGo x0 x1 c l=rectsOf (runGo x0 x1 c l)
 |[],x0,x1,c=>(rectsOf_one x0 x1 c).symm
 |s::l,x0,x1,c=>by
  simp only[wrGo,runGo]
  split
  ·exact wrGo_runs l _ _ _
  ·rw[wrGo_runs l]
   unfold rectsOf
   rw[List.flatMap_append]
   congr 1
   exact (rectsOf_one x0 x1 c).symm
theorem writeL_runs (l:List Gstrip):writeL l=rectsOf (runsL l):=by
 cases l with
 |nil=>rfl
 |cons s l=>exact wrGo_runs l _ _ _
theorem runGo_head (x0:Int):∀ (l:List Gstrip) (x1:Int) (c:List Gspan),x0 < x1→(∀ s∈l.head?,x1=s.x0)→Strips l→∀ t∈(runGo x0 x1 c l).head?,x0≤t.x0∧(t.x0=x0→t.column=c)
 |[],x1,c,_,_,_,t,ht=>by
  simp only[runGo,oneRun]at ht
  split at ht
  ·cases ht
  ·have:t=⟨x0,x1,c⟩:=by simpa using ht.symm
   subst this
   exact⟨Int.le_refl _,fun _=>rfl⟩
 |s::l,x1,c,hx,hc,hS,t,ht=>by
  have e:=hc s rfl
  have hs:s.x0 < s.x1∧(∀ u∈l.head?,s.x1=u.x0)∧Strips l:=by
   cases l with
   |nil=>exact⟨hS,fun u hu=>(by cases hu),trivial⟩
   |cons v l=>exact⟨hS.1,fun u hu=>by have:u=v:=by simpa using hu.symm
                                      subst this;exact hS.2.1,hS.2.2⟩
  simp only[runGo]at ht
  split at ht
  ·exact runGo_head x0 l s.x1 c (by omega) hs.2.1 hs.2.2 t ht
  ·unfold oneRun at ht
   split at ht
   ·rw[nil_append]at ht
    have:=runGo_head s.x0 l s.x1 s.column hs.1 hs.2.1 hs.2.2 t ht
    exact⟨by omega,fun h=>by omega⟩
   ·have:t=⟨x0,x1,c⟩:=by simpa using ht.symm
    subst this
    exact⟨Int.le_refl _,fun _=>rfl⟩
theorem runs_cons {s:Gstrip} {l:List Gstrip} (h1:s.x0 < s.x1) (h2:s.column≠[]) (h3:∀ t∈l.head?,s.x1≤t.x0∧(s.x1=t.x0→s.column≠t.column)) (h4:Runs l):Runs (s::l):=by
 cases l with
 |nil=>exact⟨h1,h2⟩
 |cons t l=>
  have:=h3 t rfl
  exact⟨⟨h1,h2⟩,this.1,this.2,h4⟩
theorem runGo_spec:∀ (l:List Gstrip) (x0 x1:Int) (c:List Gspan),x0 < x1→(∀ s∈l.head?,x1=s.x0)→Strips l→
 Runs (runGo x0 x1 c l)∧∀ x,colAt (runGo x0 x1 c l) x=bif decide (x0≤x)&&decide (x < x1)then c else colAt l x
 |[],x0,x1,c,hx,_,_=>by
  simp only[runGo,oneRun]
  split
  ·rename_i h
   subst h
   exact⟨trivial,fun x=>by simp[colAt]⟩
  ·rename_i h
   exact⟨⟨hx,h⟩,fun x=>rfl⟩
 |s::l,x0,x1,c,hx,hc,hS=>by
  have e:=hc s rfl
  have hs:s.x0 < s.x1∧(∀ u∈l.head?,s.x1=u.x0)∧Strips l:=by
   cases l with
   |nil=>exact⟨hS,fun u hu=>(by cases hu),trivial⟩
   |cons v l=>exact⟨hS.1,fun u hu=>by have:u=v:=by simpa using hu.symm
                                      subst this;exact hS.2.1,hS.2.2⟩
  simp only[runGo]
  split
  ·rename_i hcol
   obtain⟨r1,r2⟩:=runGo_spec l x0 s.x1 c (by omega) hs.2.1 hs.2.2
   refine⟨r1,fun x=>?_⟩
   rw[r2,colAt_cons,hcol]
   by_cases h1:x0≤x<;>by_cases h2:x < x1<;>by_cases h3:s.x0≤x<;>by_cases h4:x < s.x1<;>simp[h1,h2,h3,h4]<;>omega
  ·rename_i hcol
   obtain⟨r1,r2⟩:=runGo_spec l s.x0 s.x1 s.column hs.1 hs.2.1 hs.2.2
   have hd:=runGo_head s.x0 l s.x1 s.column hs.1 hs.2.1 hs.2.2
   unfold oneRun
   split
   ·rename_i hn
    subst hn
    rw[nil_append]
    refine⟨r1,fun x=>?_⟩
    rw[r2,colAt_cons]
    by_cases h1:x0≤x<;>by_cases h2:x < x1
    ·have h3:¬ s.x0≤x:=by omega
     simp only[h1,h2,h3,decide_true,decide_false,Bool.and_self,Bool.false_and,cond_true,cond_false]
     have:=runs_before r1 (b:=s.x0) (x:=x) (fun t ht=>(hd t ht).1) (by omega)
     rw[r2]at this
     simpa[h3]using this
    all_goals simp[h1,h2]
   ·rename_i hn
    rw[List.singleton_append]
    refine⟨runs_cons hx hn (fun t ht=>?_) r1,fun x=>?_⟩
    ·obtain⟨d1,d2⟩:=hd t ht
     refine⟨by show x1≤t.x0;omega,fun ht2 hcc=>?_⟩
     have ht2:x1=t.x0:=ht2
     rw[d2 (by omega)]at hcc
     exact hcol hcc.symm
    ·rw[colAt_cons,r2,colAt_cons]
theorem runsL_spec {l:List Gstrip} (h:Strips l):Runs (runsL l)∧∀ x,colAt (runsL l) x=colAt l x:=by
 cases l with
 |nil=>exact⟨trivial,fun _=>rfl⟩
 |cons s l=>
  have hs:s.x0 < s.x1∧(∀ u∈l.head?,s.x1=u.x0)∧Strips l:=by
   cases l with
   |nil=>exact⟨h,fun u hu=>(by cases hu),trivial⟩
   |cons v l=>exact⟨h.1,fun u hu=>by have:u=v:=by simpa using hu.symm
                                     subst this;exact h.2.1,h.2.2⟩
  obtain⟨r1,r2⟩:=runGo_spec l s.x0 s.x1 s.column hs.1 hs.2.1 hs.2.2
  exact⟨r1,fun x=>by rw[colAt_cons];exact r2 x⟩
theorem writeL_unique {l m:List Gstrip} (hl:Strips l) (hm:Strips m) (h:∀ x,colAt l x=colAt m x):writeL l=writeL m:=by
 obtain⟨l1,l2⟩:=runsL_spec hl
 obtain⟨m1,m2⟩:=runsL_spec hm
 rw[writeL_runs,writeL_runs,runs_unique l1 m1 fun x=>by rw[l2,m2,h]]
theorem spansAt_append (l m:List GRect) (x:Int):spansAt (l++m) x=spansAt l x++spansAt m x:=by simp[spansAt]
theorem spansAt_rects (x0 x1:Int) (c:List Gspan) (x:Int):spansAt (rectsL x0 x1 c) x=bif decide (x0≤x)&&decide (x < x1)then c else []:=by
 unfold spansAt rectsL
 induction c with
 |nil=>simp
 |cons s c ih=>
  rw[map_cons,List.filter_cons]
  cases h:(decide (x0≤x)&&decide (x < x1))with
  |true=>rw[h]at ih;simp only[if_true,map_cons,ih,cond_true]
  |false=>rw[h]at ih;simpa using ih
theorem spansAt_runs:∀ {l:List Gstrip},Runs l→∀ x,spansAt (rectsOf l) x=colAt l x
 |[],_,x=>rfl
 |s::l,h,x=>by
  have ih:=spansAt_runs (runs_tail h) x
  have hs:=runs_head h
  show spansAt (rectsL s.x0 s.x1 s.column++rectsOf l) x=_
  rw[spansAt_append,spansAt_rects,ih,colAt_cons]
  cases hc:(decide (s.x0≤x)&&decide (x < s.x1))with
  |false=>rfl
  |true=>
   rw[and_eq_true,decide_eq_true_eq,decide_eq_true_eq]at hc
   have:=runs_before (runs_tail h) (b:=s.x1) (x:=x) (fun t ht=>by
    cases l with
    |nil=>cases ht
    |cons u l=>
     have:t=u:=by simpa using ht.symm
     subst this
     exact h.2.1) hc.2
   rw[this];simp
theorem spansAt_writeL {l:List Gstrip} (h:Strips l) (x:Int):spansAt (writeL l) x=colAt l x:=by
 obtain⟨h1,h2⟩:=runsL_spec h
 rw[writeL_runs,spansAt_runs h1,h2]
theorem cells_writeL {l:List Gstrip} (h:Strips l) (x y:Int):cellsL (writeL l) x y=inS (colAt l x) y:=by
 rw[← inS_spansAt,spansAt_writeL h]
end Go.Proofs
namespace Go.Proofs
open Go.Gb Go.RowKit
theorem pairsL_cons2 {α:Type} (f:Int→Int→α) (a b:Int) (l:List Int):pairsL f (a::b::l)=f a b::pairsL f (b::l):=rfl
theorem strips_pairs (g:Int→List Gspan):∀ (es:List Int),es.Pairwise (· < ·)→Strips (pairsL (fun a b=>(⟨a,b,g a⟩:Gstrip)) es)
 |[],_=>trivial
 |[_],_=>trivial
 |[a,b],h=>by
  have h1:=(List.pairwise_cons.1 h).1 b (by simp)
  exact h1
 |a::b::c::l,h=>by
  have h1:=(List.pairwise_cons.1 h).1 b (by simp)
  exact⟨h1,rfl,strips_pairs g (b::c::l) (List.pairwise_cons.1 h).2⟩
theorem colAt_pairs_lt (g:Int→List Gspan) (x:Int):∀ (es:List Int),(∀ e∈es,x < e)→colAt (pairsL (fun a b=>(⟨a,b,g a⟩:Gstrip)) es) x=[]
 |[],_=>rfl
 |[_],_=>rfl
 |a::b::l,h=>by
  have ha:=h a (by simp)
  rw[pairsL_cons2,colAt_cons,show (decide (a≤x)&&decide (x < b))=false by rw[Bool.and_eq_false_iff,decide_eq_false_iff_not];left;omega,cond_false]
  exact colAt_pairs_lt g x (b::l) fun e he=>h e (List.mem_cons_of_mem _ he)
theorem colAt_pairs_ge (g:Int→List Gspan) (x:Int):∀ (l:List Int) (a:Int),(a::l).Pairwise (· < ·)→a≤x→
 (∀ e∈a::l,e≤x→(∀ e'∈a::l,e'≤e∨x < e')→g e=g x)→((∀ e∈a::l,e≤x)→g x=[])→colAt (pairsL (fun a b=>(⟨a,b,g a⟩:Gstrip)) (a::l)) x=g x
 |[],a,_,hx,_,h2=>(h2 (fun e he=>by have:e=a:=by simpa using he
                                    subst this;exact hx)).symm
 |b::l,a,hp,hx,h1,h2=>by
  have hab:=(List.pairwise_cons.1 hp).1 b (by simp)
  rw[pairsL_cons2,colAt_cons]
  by_cases hb:x < b
  ·rw[show (decide (a≤x)&&decide (x < b))=true by simp[hx,hb],cond_true]
   refine h1 a (by simp) hx fun e he=>?_
   rcases mem_cons.1 he with rfl |he
   ·exact .inl (Int.le_refl _)
   ·right
    rcases mem_cons.1 he with rfl |he
    ·exact hb
    ·have:=(List.pairwise_cons.1 (List.pairwise_cons.1 hp).2).1 e he;omega
  ·rw[show (decide (a≤x)&&decide (x < b))=false by simp[hb],cond_false]
   refine colAt_pairs_ge g x l b (List.pairwise_cons.1 hp).2 (by omega) (fun e he hex hc=>h1 e (List.mem_cons_of_mem _ he) hex fun e' he'=>?_) fun hall=>h2 fun e he=>?_
   ·rcases mem_cons.1 he' with rfl |he'
    ·left
     have:=(List.pairwise_cons.1 hp).1 e he
     omega
    ·exact hc e' he'
   ·rcases mem_cons.1 he with rfl |he
    ·exact hx
    ·exact hall e he
theorem colAt_pairs (g:Int→List Gspan) (es:List Int) (hp:es.Pairwise (· < ·)) (x:Int)
 (h1:∀ e∈es,e≤x→(∀ e'∈es,e'≤e∨x < e')→g e=g x) (h2:(∀ e∈es,e≤x)→g x=[]) (h3:(∀ e∈es,x < e)→g x=[]):colAt (pairsL (fun a b=>(⟨a,b,g a⟩:Gstrip)) es) x=g x:=by
 cases es with
 |nil=>exact (h3 (by simp)).symm
 |cons a l=>
  by_cases hx:a≤x
  ·exact colAt_pairs_ge g x l a hp hx h1 h2
  ·have hall:∀ e∈a::l,x < e:=by
    intro e he
    rcases mem_cons.1 he with rfl |he
    ·omega
    ·have:=(List.pairwise_cons.1 hp).1 e he;omega
   rw[colAt_pairs_lt g x _ hall,h3 hall]
theorem edgesL_mem {l:List GRect} {z:Int}:z∈edgesL l↔∃ r∈l,z=r.x0∨z=r.x1:=by
 rw[edgesL,setL_mem,List.mem_flatMap]
 simp
theorem edgesL_strict (l:List GRect):(edgesL l).Pairwise (· < ·):=setL_strict _
theorem spansAt_const {l:List GRect} {es:List Int} (hes:∀ r∈l,r.x0∈es∧r.x1∈es) {e x:Int} (hex:e≤x) (hc:∀ e'∈es,e'≤e∨x < e'):spansAt l e=spansAt l x:=by
 unfold spansAt
 congr 1
 refine List.filter_congr fun r hr=>?_
 obtain⟨h0,h1⟩:=hes r hr
 have:=hc _ h0
 have:=hc _ h1
 rw[Bool.eq_iff_iff,and_eq_true,and_eq_true,decide_eq_true_eq,decide_eq_true_eq,decide_eq_true_eq,decide_eq_true_eq]
 omega
theorem spansAt_none {l:List GRect} {x:Int} (h:∀ r∈l,x < r.x0∨r.x1≤x):spansAt l x=[]:=by
 unfold spansAt
 rw[List.map_eq_nil_iff,List.filter_eq_nil_iff]
 intro r hr
 have:=h r hr
 rw[and_eq_true,decide_eq_true_eq,decide_eq_true_eq]
 omega
theorem strips_stripsL (l:List GRect):Strips (stripsL l):=strips_pairs _ _ (edgesL_strict l)
theorem colAt_stripsL (l:List GRect) (x:Int):colAt (stripsL l) x=columnL l x:=by
 have hes:∀ r∈l,r.x0∈edgesL l∧r.x1∈edgesL l:=fun r hr=>⟨edgesL_mem.2 ⟨r,hr,.inl rfl⟩,edgesL_mem.2 ⟨r,hr,.inr rfl⟩⟩
 refine colAt_pairs (columnL l) (edgesL l) (edgesL_strict l) x (fun e _ hex hc=>?_) (fun hall=>?_) (fun hall=>?_)
 ·unfold columnL;rw[spansAt_const hes hex hc]
 ·unfold columnL;rw[spansAt_none fun r hr=> .inr (hall _ (hes r hr).2)];rfl
 ·unfold columnL;rw[spansAt_none fun r hr=> .inl (hall _ (hes r hr).1)];rfl
theorem colS_can {c:List Gspan} (h:Can c):colS c=c:=by
 obtain⟨h1,h2⟩:=colS_spec h.2
 exact can_unique h1 h h2
theorem mem_rectsOf {l:List Gstrip} {r:GRect}:r∈rectsOf l↔∃ s∈l,∃ q∈s.column,r=⟨s.x0,q.from_,s.x1,q.to⟩:=by
 simp only[rectsOf,rectsL,List.mem_flatMap,mem_map]
 constructor
 ·rintro⟨s,hs,q,hq,rfl⟩;exact⟨s,hs,q,hq,rfl⟩
 ·rintro⟨s,hs,q,hq,rfl⟩;exact⟨s,hs,q,hq,rfl⟩
theorem runs_mem_at:∀ {l:List Gstrip},Runs l→∀ s∈l,s.x0 < s.x1∧∀ x,s.x0≤x→x < s.x1→colAt l x=s.column
 |[],_,s,hs=>by simp at hs
 |t::l,h,s,hs=>by
  rcases mem_cons.1 hs with rfl |hs
  ·exact⟨(runs_head h).1,fun x h1 h2=>runs_at h1 h2⟩
  ·obtain⟨g1,g2⟩:=runs_mem_at (runs_tail h) s hs
   refine⟨g1,fun x h1 h2=>?_⟩
   have:t.x1≤x:=by
    by_cases hlt:x < t.x1
    ·have hb:=runs_before (runs_tail h) (b:=t.x1) (x:=x) (fun u hu=>by
      cases l with
      |nil=>cases hu
      |cons v l=>
       have:u=v:=by simpa using hu.symm
       subst this
       exact h.2.1) hlt
     rw[g2 x h1 h2]at hb
     have hne:s.column≠[]:=by
      have:∀ {l:List Gstrip},Runs l→∀ s∈l,s.column≠[]:=by
       intro l
       induction l with
       |nil=>intro _ s hs;simp at hs
       |cons a l ih=>
        intro h s hs
        rcases mem_cons.1 hs with rfl |hs
        ·exact (runs_head h).2
        ·exact ih (runs_tail h) s hs
      exact this (runs_tail h) s hs
     exact absurd hb hne
    ·omega
   rw[runs_behind this,g2 x h1 h2]
theorem right_writeL {S:List Gstrip} (hS:Strips S) (hc:∀ x,Can (colAt S x)) (hb:∀ x y,inS (colAt S x) y=true→(0≤x∧x < 1048576)∧(0≤y∧y < 1048576)) (hl:(writeL S).length≤200):rightL (writeL S)=true:=by
 have hok:∀ r∈writeL S,OkR r=true:=by
  intro r hr
  obtain⟨r1,r2⟩:=runsL_spec hS
  rw[writeL_runs,mem_rectsOf]at hr
  obtain⟨s,hs,q,hq,rfl⟩:=hr
  obtain⟨g1,g2⟩:=runs_mem_at r1 s hs
  have c0:=g2 s.x0 (Int.le_refl _) g1
  have c1:=g2 (s.x1 - 1) (by omega) (by omega)
  rw[r2]at c0 c1
  have hcan:=hc s.x0
  rw[c0]at hcan
  have hq1:q.from_ < q.to:=hcan.2 q hq
  have b0:=hb s.x0 q.from_ (by rw[c0,inS_iff];exact⟨q,hq,Int.le_refl _,hq1⟩)
  have b1:=hb (s.x1 - 1) (q.to - 1) (by rw[c1,inS_iff];exact⟨q,hq,by omega,by omega⟩)
  simp only[OkR,and_eq_true,decide_eq_true_eq]
  omega
 have he:writeL (stripsL (writeL S))=writeL S:=by
  refine writeL_unique (strips_stripsL _) hS fun x=>?_
  rw[colAt_stripsL,columnL,spansAt_writeL hS,colS_can (hc x)]
 unfold rightL ofL
 rw[if_pos (all_eq_true.2 hok),if_neg (by omega),he,if_neg (by omega)]
 simp
theorem rightL_of {a:List GRect} (h:rightL a=true):ofL a=(a,0):=by
 unfold rightL at h
 rw[and_eq_true,decide_eq_true_eq,decide_eq_true_eq]at h
 obtain⟨h1,h2⟩:=h
 exact Prod.ext h2 h1
theorem rightL_write {a:List GRect} (h:rightL a=true):(∀ r∈a,OkR r=true)∧a.length≤200∧writeL (stripsL a)=a:=by
 have h:=rightL_of h
 unfold ofL at h
 split at h
 ·rename_i hall
  split at h
  ·simp at h
  ·split at h
   ·simp at h
   ·rename_i h200
    injection h with h _
    refine⟨all_eq_true.1 hall,?_,h⟩
    rw[← h];omega
 ·simp at h
theorem cells_bounds {a:List GRect} (h:∀ r∈a,OkR r=true) {x y:Int} (hc:cellsL a x y=true):(0≤x∧x < 1048576)∧(0≤y∧y < 1048576):=by
 simp only[cellsL,List.any_eq_true,and_eq_true,decide_eq_true_eq]at hc
 obtain⟨q,hq,h1,h2⟩:=hc
 have:=h q hq
 simp only[OkR,and_eq_true,decide_eq_true_eq]at this
 omega
def ext (out:List Gspan) (p:Gspan):List Gspan:=
 match out.getLast? with
 |some q=>bif q.to==p.from_ then out.dropLast++[⟨q.from_,p.to⟩]else out++[p]
 |none=>[p]
def ysL (a b:List Gspan):List Int:=setL ((a++b).flatMap fun s=>[s.from_,s.to])
def mergeL (keep:Bool→Bool→Bool) (a b:List Gspan):List Gspan:=
 ((pairsL Gspan.mk (ysL a b)).filter fun p=>keep (inS a p.from_) (inS b p.from_)).foldl ext []
theorem ext_concat (o:List Gspan) (q p:Gspan):ext (o++[q]) p=bif q.to==p.from_ then o++[⟨q.from_,p.to⟩]else o++[q]++[p]:=by
 simp[ext]
theorem ext_spec {out:List Gspan} {p:Gspan} (hc:Can out) (hp:OkS p) (hb:∀ o∈out,o.to≤p.from_):
 Can (ext out p)∧(∀ o∈ext out p,o.to≤p.to)∧∀ y,inS (ext out p) y=(inS out y || inS [p] y):=by
 have hp':p.from_ < p.to:=hp
 rcases List.eq_nil_or_concat out with rfl |⟨o,q,rfl⟩
 ·refine⟨⟨by simp[ext],by simp[ext];exact hp⟩,by simp[ext],fun y=>by simp[ext,inS]⟩
 ·rw[List.concat_eq_append]at*
  obtain⟨h1,h2⟩:=hc
  rw[List.pairwise_append]at h1
  obtain⟨p1,_,p3⟩:=h1
  have hq:q.from_ < q.to:=h2 q (by simp)
  have hqp:q.to≤p.from_:=hb q (by simp)
  rw[ext_concat]
  cases hj:q.to==p.from_ with
  |true=>
   have hj:=eq_of_beq hj
   simp only[cond_true]
   refine⟨⟨?_,?_⟩,?_,?_⟩
   ·rw[List.pairwise_append]
    refine⟨p1,by simp,fun a ha b hb'=>?_⟩
    rw[mem_singleton]at hb'
    subst hb'
    exact p3 a ha q (by simp)
   ·intro a ha
    rcases mem_append.1 ha with ha |ha
    ·exact h2 a (by simp[ha])
    ·rw[mem_singleton]at ha
     subst ha
     show q.from_ < p.to
     omega
   ·intro a ha
    rcases mem_append.1 ha with ha |ha
    ·have:=hb a (by simp[ha]);omega
    ·rw[mem_singleton]at ha
     subst ha
     exact Int.le_refl _
   ·intro y
    rw[inS_append,inS_append,Bool.or_assoc]
    congr 1
    simp only[inS_cons,inS_nil,Bool.or_false]
    rw[Bool.eq_iff_iff]
    simp only[and_eq_true,Bool.or_eq_true,decide_eq_true_eq]
    omega
  |false=>
   rw[beq_eq_false_iff_ne]at hj
   simp only[cond_false]
   refine⟨⟨?_,?_⟩,?_,?_⟩
   ·rw[List.pairwise_append]
    refine⟨?_,by simp,fun a ha b hb'=>?_⟩
    ·rw[List.pairwise_append]
     exact⟨p1,by simp,p3⟩
    ·rw[mem_singleton]at hb'
     subst hb'
     rcases mem_append.1 ha with ha |ha
     ·have:=p3 a ha q (by simp)
      omega
     ·rw[mem_singleton]at ha
      subst ha
      omega
   ·intro a ha
    rcases mem_append.1 ha with ha |ha
    ·exact h2 a ha
    ·rw[mem_singleton]at ha
     subst ha
     exact hp
   ·intro a ha
    rcases mem_append.1 ha with ha |ha
    ·have:=hb a ha;omega
    ·rw[mem_singleton]at ha
     subst ha
     exact Int.le_refl _
   ·intro y
    rw[inS_append]
theorem foldl_ext:∀ (l out:List Gspan),Can out→(∀ s∈l,OkS s)→l.Pairwise (fun x y=>x.to≤y.from_)→(∀ o∈out,∀ s∈l,o.to≤s.from_)→Can (l.foldl ext out)∧∀ y,inS (l.foldl ext out) y=(inS out y || inS l y)
 |[],out,hc,_,_,_=>⟨hc,fun y=>by simp[inS_nil]⟩
 |s::l,out,hc,hv,hp,hb=>by
  rw[List.pairwise_cons]at hp
  obtain⟨m1,m2,m3⟩:=ext_spec hc (hv s (by simp)) (fun o ho=>hb o ho s (by simp))
  obtain⟨f1,f2⟩:=foldl_ext l (ext out s) m1 (fun t ht=>hv t (by simp[ht])) hp.2 (fun o ho t ht=>Int.le_trans (m2 o ho) (hp.1 t ht))
  refine⟨f1,fun y=>?_⟩
  rw[List.foldl_cons,f2,m3,Bool.or_assoc,← inS_append]
  rfl
theorem pairs_mk:∀ (es:List Int),es.Pairwise (· < ·)→(∀ p∈pairsL Gspan.mk es,OkS p∧p.from_∈es∧p.to∈es∧∀ e∈es,e≤p.from_∨p.to≤e)∧(pairsL Gspan.mk es).Pairwise fun x y=>x.to≤y.from_
 |[],_=>⟨by simp[pairsL],by simp[pairsL]⟩
 |[_],_=>⟨by simp[pairsL],by simp[pairsL]⟩
 |a::b::l,h=>by
  obtain⟨h1,h2⟩:=List.pairwise_cons.1 h
  obtain⟨i1,i2⟩:=pairs_mk (b::l) h2
  have hab:=h1 b (by simp)
  rw[pairsL_cons2]
  refine⟨fun p hp=>?_,?_⟩
  ·rcases mem_cons.1 hp with rfl |hp
   ·refine⟨hab,by simp,by simp,fun e he=>?_⟩
    rcases mem_cons.1 he with rfl |he
    ·exact .inl (Int.le_refl _)
    ·right
     rcases mem_cons.1 he with rfl |he
     ·exact Int.le_refl _
     ·have:=(List.pairwise_cons.1 h2).1 e he
      show b≤e
      omega
   ·obtain⟨g1,g2,g3,g4⟩:=i1 p hp
    refine⟨g1,List.mem_cons_of_mem _ g2,List.mem_cons_of_mem _ g3,fun e he=>?_⟩
    rcases mem_cons.1 he with rfl |he
    ·left
     have:=h1 _ g2
     omega
    ·exact g4 e he
  ·rw[List.pairwise_cons]
   refine⟨fun p hp=>?_,i2⟩
   obtain⟨_,g2,_,_⟩:=i1 p hp
   show b≤p.from_
   rcases mem_cons.1 g2 with e |g2
   ·omega
   ·have:=(List.pairwise_cons.1 h2).1 _ g2;omega
theorem pairs_cover:∀ (es:List Int) (y:Int),(∃ e∈es,e≤y)→(∃ e∈es,y < e)→es.Pairwise (· < ·)→∃ p∈pairsL Gspan.mk es,p.from_≤y∧y < p.to
 |[],y,⟨e,he,_⟩,_,_=>by simp at he
 |[a],y,⟨e,he,h1⟩,⟨e',he',h2⟩,_=>by
  have:e=a:=by simpa using he
  have:e'=a:=by simpa using he'
  omega
 |a::b::l,y,h1,h2,hp=>by
  obtain⟨g1,g2⟩:=List.pairwise_cons.1 hp
  rw[pairsL_cons2]
  by_cases hb:y < b
  ·refine⟨⟨a,b⟩,by simp,?_,hb⟩
   obtain⟨e,he,hey⟩:=h1
   show a≤y
   rcases mem_cons.1 he with rfl |he
   ·exact hey
   ·have:=g1 e he;omega
  ·obtain⟨e',he',h2'⟩:=h2
   obtain⟨p,hp,q⟩:=pairs_cover (b::l) y ⟨b,by simp,by omega⟩ ⟨e',(by
    rcases mem_cons.1 he' with rfl |he'
    ·have:=g1 b (by simp);omega
    ·exact he'),h2'⟩ g2
   exact⟨p,List.mem_cons_of_mem _ hp,q⟩
theorem inS_const {c:List Gspan} {es:List Int} (hes:∀ s∈c,s.from_∈es∧s.to∈es) {e y:Int} (hey:e≤y) (hc:∀ e'∈es,e'≤e∨y < e'):inS c e=inS c y:=by
 rw[Bool.eq_iff_iff,inS_iff,inS_iff]
 constructor
 ·rintro⟨s,hs,h1,h2⟩
  have:=hc _ (hes s hs).1
  have:=hc _ (hes s hs).2
  exact⟨s,hs,by omega,by omega⟩
 ·rintro⟨s,hs,h1,h2⟩
  have:=hc _ (hes s hs).1
  have:=hc _ (hes s hs).2
  exact⟨s,hs,by omega,by omega⟩
theorem mergeL_spec {keep:Bool→Bool→Bool} (hk:keep false false=false) (a b:List Gspan):Can (mergeL keep a b)∧∀ y,inS (mergeL keep a b) y=keep (inS a y) (inS b y):=by
 have hstr:(ysL a b).Pairwise (· < ·):=setL_strict _
 have hmem:∀ z,z∈ysL a b↔∃ s,(s∈a∨s∈b)∧(z=s.from_∨z=s.to):=by
  intro z
  rw[ysL,setL_mem,List.mem_flatMap]
  simp
 have ha:∀ s∈a,s.from_∈ysL a b∧s.to∈ysL a b:=fun s hs=>⟨(hmem _).2 ⟨s,.inl hs,.inl rfl⟩,(hmem _).2 ⟨s,.inl hs,.inr rfl⟩⟩
 have hb:∀ s∈b,s.from_∈ysL a b∧s.to∈ysL a b:=fun s hs=>⟨(hmem _).2 ⟨s,.inr hs,.inl rfl⟩,(hmem _).2 ⟨s,.inr hs,.inr rfl⟩⟩
 obtain⟨p1,p2⟩:=pairs_mk (ysL a b) hstr
 obtain⟨f1,f2⟩:=foldl_ext ((pairsL Gspan.mk (ysL a b)).filter fun p=>keep (inS a p.from_) (inS b p.from_)) [] can_nil (fun s hs=>(p1 s (List.mem_filter.1 hs).1).1) (p2.filter _) (by simp)
 refine⟨f1,fun y=>?_⟩
 rw[mergeL,f2,inS_nil,Bool.false_or]
 by_cases hin:(∃ e∈ysL a b,e≤y)∧(∃ e∈ysL a b,y < e)
 ·obtain⟨p,hp,h1,h2⟩:=pairs_cover _ y hin.1 hin.2 hstr
  obtain⟨_,_,_,q4⟩:=p1 p hp
  have hc:∀ e'∈ysL a b,e'≤p.from_∨y < e':=fun e' he'=>by rcases q4 e' he' with h |h<;>omega
  rw[← inS_const ha h1 hc,← inS_const hb h1 hc,Bool.eq_iff_iff,inS_iff]
  constructor
  ·rintro⟨s,hs,g1,g2⟩
   rw[List.mem_filter]at hs
   obtain⟨_,r2,r3,r4⟩:=p1 s hs.1
   have:s.from_=p.from_:=by
    have e1:=q4 _ r2
    have e2:=r4 _ (p1 p hp).2.1
    omega
   rw[← this]
   exact hs.2
  ·intro hkk
   exact⟨p,List.mem_filter.2 ⟨hp,hkk⟩,h1,h2⟩
 ·have out:∀ c:List Gspan,(∀ s∈c,s.from_∈ysL a b∧s.to∈ysL a b)→inS c y=false:=by
   intro c hc
   cases hy:inS c y with
   |false=>rfl
   |true=>
    obtain⟨s,hs,g1,g2⟩:=(inS_iff _ _).1 hy
    exact absurd ⟨⟨_,(hc s hs).1,g1⟩,⟨_,(hc s hs).2,g2⟩⟩ hin
  rw[out a ha,out b hb,hk]
  refine out _ fun s hs=>?_
  obtain⟨_,r2,r3,_⟩:=p1 s (List.mem_filter.1 hs).1
  exact⟨r2,r3⟩
def combL (keep:Bool→Bool→Bool) (a b:List GRect):List Gstrip:=
 pairsL (fun x x'=>(⟨x,x',mergeL keep (columnL a x) (columnL b x)⟩:Gstrip)) (edgesL (a++b))
def combineL (keep:Bool→Bool→Bool) (a b:List GRect):List GRect×Int:=
 if rightL a&&rightL b then (if (writeL (combL keep a b)).length>200 then ([],6)else (writeL (combL keep a b),0))else ([],1)
theorem combL_col {keep:Bool→Bool→Bool} (hk:keep false false=false) (a b:List GRect) (x:Int):colAt (combL keep a b) x=mergeL keep (columnL a x) (columnL b x):=by
 have hes:∀ r∈a++b,r.x0∈edgesL (a++b)∧r.x1∈edgesL (a++b):=fun r hr=>⟨edgesL_mem.2 ⟨r,hr,.inl rfl⟩,edgesL_mem.2 ⟨r,hr,.inr rfl⟩⟩
 have ha:∀ r∈a,r.x0∈edgesL (a++b)∧r.x1∈edgesL (a++b):=fun r hr=>hes r (List.mem_append_left _ hr)
 have hb:∀ r∈b,r.x0∈edgesL (a++b)∧r.x1∈edgesL (a++b):=fun r hr=>hes r (List.mem_append_right _ hr)
 have hnil:mergeL keep [] []=[]:=rfl
 have e0:colS []=[]:=rfl
 refine colAt_pairs (fun x=>mergeL keep (columnL a x) (columnL b x)) (edgesL (a++b)) (edgesL_strict _) x (fun e _ hex hc=>?_) (fun hall=>?_) (fun hall=>?_)
 ·unfold columnL;rw[spansAt_const ha hex hc,spansAt_const hb hex hc]
 ·unfold columnL;rw[spansAt_none fun r hr=> .inr (hall _ (ha r hr).2),spansAt_none fun r hr=> .inr (hall _ (hb r hr).2),e0,hnil]
 ·unfold columnL;rw[spansAt_none fun r hr=> .inl (hall _ (ha r hr).1),spansAt_none fun r hr=> .inl (hall _ (hb r hr).1),e0,hnil]
theorem combineL_spec {keep:Bool→Bool→Bool} (hk:keep false false=false) {a b r:List GRect} (h:combineL keep a b=(r,0)):rightL a=true∧rightL b=true∧rightL r=true∧∀ x y,cellsL r x y=keep (cellsL a x y) (cellsL b x y):=by
 unfold combineL at h
 split at h
 ·rename_i hab
  rw[and_eq_true]at hab
  split at h
  ·simp at h
  ·rename_i h200
   injection h with h _
   subst h
   obtain⟨a1,_,_⟩:=rightL_write hab.1
   obtain⟨b1,_,_⟩:=rightL_write hab.2
   have hS:Strips (combL keep a b):=strips_pairs _ _ (edgesL_strict _)
   have hcell:∀ x y,inS (colAt (combL keep a b) x) y=keep (cellsL a x y) (cellsL b x y):=by
    intro x y
    rw[combL_col hk,(mergeL_spec hk _ _).2,(columnL_spec a1 x).2,(columnL_spec b1 x).2]
   refine⟨hab.1,hab.2,right_writeL hS (fun x=>by rw[combL_col hk];exact (mergeL_spec hk _ _).1) (fun x y hy=>?_) (by omega),fun x y=>by rw[cells_writeL hS,hcell]⟩
   rw[hcell]at hy
   cases ca:cellsL a x y with
   |true=>exact cells_bounds a1 ca
   |false=>
    cases cb:cellsL b x y with
    |true=>exact cells_bounds b1 cb
    |false=>rw[ca,cb,hk]at hy;cases hy
 ·simp at h
end Go.Proofs
namespace Go.Proofs
open Go.Gb Go.RowKit
def gBs1 {α:Type} (a0:List α) (a1:Int) (a2:(α×Int×Unit)→Option Int):(Int×Int)→Option ((Int×Int) ⊕ Int)
 |(v1,v2)=>(bif (decide (v1 < (v2:Int)))then bif (decide (0≤1)&&decide (1≤IntKind.u64.bits))then (at? a0 (i64.wrap ((IntKind.u64.wrap (i64.wrap (v1+v2)))/2 ^ (1:Int).toNat))).bind fun x1=>(a2 (x1,a1,())).bind fun r1=>(bif (decide (r1 < (0:Int)))then some (.inl ((i64.wrap ((i64.wrap ((IntKind.u64.wrap (i64.wrap (v1+v2)))/2 ^ (1:Int).toNat))+1)),v2))else some (.inl (v1,(i64.wrap ((IntKind.u64.wrap (i64.wrap (v1+v2)))/2 ^ (1:Int).toNat)))))else none else some (.inr v1))
theorem gBs1_run {α:Type} {l:List α} {key:Int} {φ:(α×Int×Unit)→Option Int} (p:α→Bool) (f:α→Int) (hφ:∀ x,φ (x,key,())=some (f x)) (hf:∀ x,decide (f x < 0)=p x)
 (hm:∀ i j (hj:j < l.length) (hij:i < j),p l[j]=true→p (l[i]'(by omega))=true) (hl:l.length < 1099511627776):
 ∀ (m i j n:Nat),j - i≤m→i≤j→j≤l.length→(∀ k (hk:k < i) (hkl:k < l.length),p l[k]=true)→(∀ k (hk:j≤k) (hkl:k < l.length),p l[k]=false)→m < n→
 ∃ w:Nat,w≤l.length∧iter (gBs1 l key φ) n ((i:Int),(j:Int))=some (w:Int)∧(∀ k (hk:k < w) (hkl:k < l.length),p l[k]=true)∧∀ k (hk:w≤k) (hkl:k < l.length),p l[k]=false:=by
 intro m
 induction m with
 |zero=>
  intro i j n hm0 hij hjl h1 h2 hn
  obtain⟨n,rfl⟩:∃ q,n=q+1:=⟨n - 1,by omega⟩
  have:i=j:=by omega
  subst this
  exact⟨i,hjl,iter_inr (by simp[gBs1]),h1,h2⟩
 |succ m ih=>
  intro i j n hm0 hij hjl h1 h2 hn
  obtain⟨n,rfl⟩:∃ q,n=q+1:=⟨n - 1,by omega⟩
  by_cases hlt:i < j
  ·have c:decide (((i:Nat):Int) < ((j:Nat):Int))=true:=by simpa using hlt
   have c1:(decide (0≤1)&&decide (1≤IntKind.u64.bits))=true:=rfl
   have e:i64.wrap ((IntKind.u64.wrap (i64.wrap (((i:Nat):Int)+((j:Nat):Int))))/2 ^ (1:Int).toNat)=(((i+j)/2:Nat):Int):=by
    rw[wadd (by omega),wrap_u64n (by omega),show ((((i+j:Nat):Int))/2 ^ (1:Int).toNat)=(((i+j)/2:Nat):Int)by
     rw[show (1:Int).toNat=1 from rfl,Int.pow_one];omega,wrap_nat (by omega)]
   have hh:(i+j)/2 < l.length:=by omega
   cases hp:p l[(i+j)/2]with
   |true=>
    have s:gBs1 l key φ ((i:Int),(j:Int))=some (.inl ((((i+j)/2+1:Nat):Int),(j:Int))):=by
     simp only[gBs1,c,cond_true,c1,e,at_get hh,bind_some,hφ,hf,hp]
     rw[wrap_succ (by omega)]
    rw[iter_inl s]
    refine ih _ _ n (by omega) (by omega) hjl (fun k hk hkl=>?_) h2 (by omega)
    by_cases hk2:k < (i+j)/2
    ·exact hm k _ hh hk2 hp
    ·have:k=(i+j)/2:=by omega
     subst this
     exact hp
   |false=>
    have s:gBs1 l key φ ((i:Int),(j:Int))=some (.inl ((i:Int),(((i+j)/2:Nat):Int))):=by
     simp only[gBs1,c,cond_true,c1,e,at_get hh,bind_some,hφ,hf,hp,cond_false]
    rw[iter_inl s]
    refine ih _ _ n (by omega) (by omega) (by omega) h1 (fun k hk hkl=>?_) (by omega)
    by_cases hk2:(i+j)/2 < k
    ·cases hpk:p l[k]with
     |false=>rfl
     |true=>have:=hm _ k hkl hk2 hpk;rw[hp]at this;cases this
    ·have:k=(i+j)/2:=by omega
     subst this
     exact hp
  ·have:i=j:=by omega
   subst this
   exact⟨i,hjl,iter_inr (by simp[gBs1]),h1,h2⟩
theorem bs_strip (l:List Gstrip) (key:Int) (φ:(Gstrip×Int×Unit)→Option Int):sl_BinarySearchFunc_strip_int_s1 l key φ=gBs1 l key φ:=by funext ⟨a,b⟩;rfl
theorem bs_span (l:List Gspan) (key:Int) (φ:(Gspan×Int×Unit)→Option Int):sl_BinarySearchFunc_span_int_s1 l key φ=gBs1 l key φ:=by funext ⟨a,b⟩;rfl
theorem strips_asc:∀ {l:List Gstrip},Strips l→l.Pairwise (fun s t=>s.x1≤t.x0)∧∀ s∈l,s.x0 < s.x1
 |[],_=>⟨List.Pairwise.nil,by simp⟩
 |[s],h=>⟨by simp,fun t ht=>by have:t=s:=by simpa using ht
                               subst this;exact h⟩
 |s::t::l,h=>by
  obtain⟨h1,h2,h3⟩:=h
  obtain⟨p1,p2⟩:=strips_asc h3
  refine⟨?_,?_⟩
  ·rw[List.pairwise_cons]
   refine⟨fun u hu=>?_,p1⟩
   rcases mem_cons.1 hu with rfl |hu
   ·omega
   ·have:=(List.pairwise_cons.1 p1).1 u hu
    have:=p2 t (by simp)
    omega
  ·intro u hu
   rcases mem_cons.1 hu with rfl |hu
   ·exact h1
   ·exact p2 u hu
theorem colAt_none {x:Int}:∀ {l:List Gstrip},(∀ s∈l,¬ (s.x0≤x∧x < s.x1))→colAt l x=[]
 |[],_=>rfl
 |s::l,h=>by
  have:=h s (by simp)
  rw[colAt_cons,show (decide (s.x0≤x)&&decide (x < s.x1))=false by rw[Bool.and_eq_false_iff,decide_eq_false_iff_not,decide_eq_false_iff_not];omega,cond_false]
  exact colAt_none fun t ht=>h t (by simp[ht])
theorem colAt_get {x:Int}:∀ {l:List Gstrip} {w:Nat} (hw:w < l.length),(∀ k (hk:k < w),¬ ((l[k]'(by omega)).x0≤x∧x < (l[k]'(by omega)).x1))→l[w].x0≤x→x < l[w].x1→colAt l x=l[w].column
 |[],w,hw,_,_,_=>by simp at hw
 |s::l,0,hw,_,h0,h1=>runs_at h0 h1
 |s::l,w+1,hw,hk,h0,h1=>by
  have hs:=hk 0 (by omega)
  simp only[List.getElem_cons_zero]at hs
  rw[colAt_cons,show (decide (s.x0≤x)&&decide (x < s.x1))=false by rw[Bool.and_eq_false_iff,decide_eq_false_iff_not,decide_eq_false_iff_not];omega,cond_false]
  exact colAt_get (by simpa using hw) (fun k hk'=>by have:=hk (k+1) (by omega);simpa using this) h0 h1
theorem rg_at_eq {n:Nat} {l:List Gstrip} {x:Int} (h:Strips l) (hl:l.length < 1099511627776) (hn:l.length < n):rg_at n l x=some (colAt l x):=by
 obtain⟨a1,a2⟩:=strips_asc h
 rw[List.pairwise_iff_getElem]at a1
 have run:=gBs1_run (l:=l) (key:=x) (φ:=fun (y1:Gstrip×Int×Unit)=>rg_at_f1 y1.1 y1.2.1) (fun s=>decide (s.x1≤x)) (fun s=>if s.x1≤x then -1 else 1)
  (fun s=>by show rg_at_f1 s x=_;unfold rg_at_f1;by_cases c:s.x1≤x<;>simp[c]) (fun s=>by by_cases c:s.x1≤x<;>simp[c])
  (fun i j hj hij hp=>by
   rw[decide_eq_true_eq]at hp ⊢
   have:=a1 i j (by omega) hj hij
   have:=a2 l[j] (List.getElem_mem _)
   omega) hl l.length 0 l.length n (by omega) (by omega) (Nat.le_refl _) (fun k hk=>by omega) (fun k hk hkl=>by omega) hn
 obtain⟨w,hw,e,h1,h2⟩:=run
 unfold rg_at sl_BinarySearchFunc_strip_int
 rw[bs_strip]
 have e':iter (gBs1 l x fun (y1:Gstrip×Int×Unit)=>rg_at_f1 y1.1 y1.2.1) n ((0:Int),((l.length:Nat):Int))=some (w:Int):=e
 rw[e']
 simp only[bind_some]
 have tail:∀ b:Int,∃ bb,((bif (decide ((w:Int) < ((l.length:Int):Int)))then (at? l (w:Int)).bind fun x2=>(rg_at_f1 x2 x).bind fun r2=>some ((w:Int),(r2==b))else some ((w:Int),false)):Option (Int×Bool))=some ((w:Int),bb):=by
  intro b
  by_cases c:w < l.length
  ·have d:decide ((w:Int) < (l.length:Int))=true:=by simpa using c
   rw[d,cond_true,at_get c,bind_some]
   unfold rg_at_f1
   cases decide (l[w].x1≤x)<;>exact⟨_,rfl⟩
  ·have d:decide ((w:Int) < (l.length:Int))=false:=by simp;omega
   rw[d]
   exact⟨_,rfl⟩
 obtain⟨bb,hbb⟩:=tail 0
 rw[hbb,bind_some]
 simp only[]
 by_cases c:w < l.length
 ·have d:decide ((w:Int) < (l.length:Int))=true:=by simpa using c
  simp only[d,cond_true,at_get c,bind_some]
  have hx1:=h2 w (Nat.le_refl _) c
  rw[decide_eq_false_iff_not]at hx1
  by_cases c2:l[w].x0≤x
  ·simp only[c2,decide_true,cond_true]
   rw[colAt_get c (fun k hk hh=>?_) c2 (by omega)]
   have:=h1 k hk (by omega)
   rw[decide_eq_true_eq]at this
   omega
  ·simp only[c2,decide_false,cond_false]
   rw[colAt_none fun s hs hh=>?_]
   obtain⟨k,hk,rfl⟩:=List.mem_iff_getElem.1 hs
   rcases Nat.lt_trichotomy k w with hkw |rfl |hkw
   ·have:=h1 k hkw hk
    rw[decide_eq_true_eq]at this
    omega
   ·omega
   ·have:=a1 w k c hk hkw
    have:=a2 l[w] (List.getElem_mem _)
    omega
 ·have d:decide ((w:Int) < (l.length:Int))=false:=by simp;omega
  simp only[d,cond_false,bind_some]
  rw[colAt_none fun s hs hh=>?_]
  obtain⟨k,hk,rfl⟩:=List.mem_iff_getElem.1 hs
  have:=h1 k (by omega) hk
  rw[decide_eq_true_eq]at this
  omega
theorem rg_inside_eq {n:Nat} {l:List Gspan} {y:Int} (h:Can l) (hl:l.length < 1099511627776) (hn:l.length < n):rg_inside n l y=some (inS l y):=by
 obtain⟨a1,a2⟩:=h
 rw[List.pairwise_iff_getElem]at a1
 have run:=gBs1_run (l:=l) (key:=y) (φ:=fun (y1:Gspan×Int×Unit)=>rg_inside_f1 y1.1 y1.2.1) (fun s=>decide (s.to≤y)) (fun s=>if s.to≤y then -1 else 1)
  (fun s=>by show rg_inside_f1 s y=_;unfold rg_inside_f1;by_cases c:s.to≤y<;>simp[c]) (fun s=>by by_cases c:s.to≤y<;>simp[c])
  (fun i j hj hij hp=>by
   rw[decide_eq_true_eq]at hp ⊢
   have:=a1 i j (by omega) hj hij
   have:l[j].from_ < l[j].to:=a2 l[j] (List.getElem_mem _)
   omega) hl l.length 0 l.length n (by omega) (by omega) (Nat.le_refl _) (fun k hk=>by omega) (fun k hk hkl=>by omega) hn
 obtain⟨w,hw,e,h1,h2⟩:=run
 unfold rg_inside sl_BinarySearchFunc_span_int
 rw[bs_span]
 have e':iter (gBs1 l y fun (y1:Gspan×Int×Unit)=>rg_inside_f1 y1.1 y1.2.1) n ((0:Int),((l.length:Nat):Int))=some (w:Int):=e
 rw[e']
 simp only[bind_some]
 have tail:∀ b:Int,∃ bb,((bif (decide ((w:Int) < ((l.length:Int):Int)))then (at? l (w:Int)).bind fun x2=>(rg_inside_f1 x2 y).bind fun r2=>some ((w:Int),(r2==b))else some ((w:Int),false)):Option (Int×Bool))=some ((w:Int),bb):=by
  intro b
  by_cases c:w < l.length
  ·have d:decide ((w:Int) < (l.length:Int))=true:=by simpa using c
   rw[d,cond_true,at_get c,bind_some]
   unfold rg_inside_f1
   cases decide (l[w].to≤y)<;>exact⟨_,rfl⟩
  ·have d:decide ((w:Int) < (l.length:Int))=false:=by simp;omega
   rw[d]
   exact⟨_,rfl⟩
 obtain⟨bb,hbb⟩:=tail 0
 rw[hbb,bind_some]
 simp only[]
 by_cases c:w < l.length
 ·have d:decide ((w:Int) < (l.length:Int))=true:=by simpa using c
  simp only[d,cond_true,at_get c,bind_some]
  have hx1:=h2 w (Nat.le_refl _) c
  rw[decide_eq_false_iff_not]at hx1
  congr 1
  rw[Bool.eq_iff_iff,decide_eq_true_eq,inS_iff]
  constructor
  ·exact fun hf=>⟨l[w],List.getElem_mem _,hf,by omega⟩
  ·rintro⟨s,hs,g1,g2⟩
   obtain⟨k,hk,rfl⟩:=List.mem_iff_getElem.1 hs
   rcases Nat.lt_trichotomy k w with hkw |rfl |hkw
   ·have:=h1 k hkw hk
    rw[decide_eq_true_eq]at this
    omega
   ·exact g1
   ·have:=a1 w k c hk hkw
    omega
 ·have d:decide ((w:Int) < (l.length:Int))=false:=by simp;omega
  simp only[d,cond_false]
  congr 1
  symm
  cases hh:inS l y with
  |false=>rfl
  |true=>
   obtain⟨s,hs,g1,g2⟩:=(inS_iff _ _).1 hh
   obtain⟨k,hk,rfl⟩:=List.mem_iff_getElem.1 hs
   have:=h1 k (by omega) hk
   rw[decide_eq_true_eq]at this
   omega
theorem sl_Concat_span_eq {n:Nat} {l:List (List Gspan)} (hf:l.flatten.length < 1099511627776) (hl:l.length < 1099511627776) (hn:l.length < n):sl_Concat_span n l=some l.flatten:=gsConcat_run (Gspan.mk 0 0) (b:=16) hf (by omega) hl hn
theorem flatMap_len2 (l:List Gspan):(l.flatMap fun r=>[r.from_,r.to]).length=2*l.length:=by
 induction l with
 |nil=>rfl
 |cons x l ih=>simp only[List.flatMap_cons,length_append,ih,List.length_cons,List.length_nil];omega
theorem rg_merge_s1_run {n:Nat} {l:List Gspan} (hl:l.length < 10995116277) (hn:l.length < n):iter (rg_merge_s1 l) n ((0:Int),([]:List Int))=some (l.flatMap fun r=>[r.from_,r.to]):=by
 have:=iter_foldI (l:=l) (step:=rg_merge_s1 l) (fun i (s:List Int)=>((i:Int),s)) (fun r s=>s++[r.from_,r.to]) (fun s=>s) (fun i s=>s.length≤2*i)
  (fun i hi s hs=>?_) (fun s hs=>by simp[rg_merge_s1]) n hn [] (Nat.le_refl _)
 ·rw[show ((0:Nat):Int)=0 from rfl]at this
  rw[this]
  have gen:∀ (ys:List Gspan) (s:List Int),ys.foldl (fun s r=>s++[r.from_,r.to]) s=s++ys.flatMap fun r=>[r.from_,r.to]:=by
   intro ys
   induction ys with
   |nil=>intro s;simp
   |cons y ys ih=>intro s;simp[ih]
  congr 1
  simpa using gen l []
 ·have hi':decide (((i:Nat):Int) < ((l.length:Nat):Int))=true:=by simpa using hi
  have ap:appOk s.length s.length (sub ([l[i].from_,l[i].to]:List Int) 0 2).length 2 8=true:=appOk_true (n:=2) (by omega) (by simp only[maxLen];omega)
  simp only[rg_merge_s1,hi',cond_true,inb_get hi,at_getz hi,bind_some,ap,letv_eq,eqL_self]
  refine⟨?_,by simp;omega⟩
  rw[wrap_succ (by omega)];rfl
theorem foldl_filt {α β:Type} (p:α→Bool) (f:β→α→β):∀ (l:List α) (s:β),(l.filter p).foldl f s=l.foldl (fun s x=>bif p x then f s x else s) s
 |[],s=>rfl
 |x::l,s=>by
  rw[List.filter_cons,List.foldl_cons]
  cases h:p x with
  |true=>simp only[if_true,List.foldl_cons,cond_true];exact foldl_filt p f l _
  |false=>simp only[Bool.false_eq_true,if_false,cond_false];exact foldl_filt p f l _
theorem length_ext (out:List Gspan) (p:Gspan):(ext out p).length≤out.length+1:=by
 unfold ext
 cases out.getLast? with
 |none=>simp
 |some q=>simp only;cases q.to==p.from_<;>simp<;>omega
theorem length_ysL (a b:List Gspan):(ysL a b).length≤2*(a.length+b.length):=by
 have h:=length_compactL (isort (fun a b=>decide (a < b)) ((a++b).flatMap fun r=>[r.from_,r.to]))
 rw[length_isort,flatMap_len2,length_append]at h
 exact h
theorem length_mergeL (keep:Bool→Bool→Bool) (a b:List Gspan):(mergeL keep a b).length≤2*(a.length+b.length):=by
 have gen:∀ (ys out:List Gspan),(ys.foldl ext out).length≤out.length+ys.length:=by
  intro ys
  induction ys with
  |nil=>intro out;simp
  |cons y ys ih=>
   intro out
   simp only[List.foldl_cons,List.length_cons]
   have:=ih (ext out y);have:=length_ext out y;omega
 have h:=gen ((pairsL Gspan.mk (ysL a b)).filter fun p=>keep (inS a p.from_) (inS b p.from_)) []
 have h2:=List.length_filter_le (fun p=>keep (inS a p.from_) (inS b p.from_)) (pairsL Gspan.mk (ysL a b))
 have h3:=(pairsL_get Gspan.mk (ysL a b)).1
 have h4:=length_ysL a b
 simp only[List.length_nil]at h
 unfold mergeL
 omega
theorem rg_merge_eq {n:Nat} {keep:Bool→Bool→Bool} {φ:(Bool×Bool×Unit)→Option Bool} (hφ:∀ p q,φ (p,q,())=some (keep p q)) {a b:List Gspan} (ha:Can a) (hb:Can b) (hl:a.length+b.length < 1099511627) (hn:2*(a.length+b.length)+2 < n):rg_merge n a b φ=some (mergeL keep a b):=by
 have fl:[a,b].flatten=a++b:=by simp
 have s2:(sub ([a,b]:List (List Gspan)) 0 2)=[a,b]:=rfl
 have q2:eqL ([a,b]:List (List Gspan)).length 2=true:=rfl
 have hys:=length_ysL a b
 have hfl:((a++b).flatMap fun r=>[r.from_,r.to]).length=2*(a.length+b.length):=by rw[flatMap_len2,length_append]
 unfold rg_merge
 rw[s2,q2,cond_true,sl_Concat_span_eq (by rw[fl,length_append];omega) (by simp) (by simp;omega),fl]
 simp only[bind_some,List.length_nil,eqL_self,cond_true,rg_merge_s1_run (l:=a++b) (n:=n) (by rw[length_append];omega) (by rw[length_append];omega)]
 rw[sl_Sort_int_eq (by rw[hfl];omega) (by rw[hfl];omega)]
 simp only[bind_some,length_isort,eqL_self,cond_true]
 rw[sl_Compact_int_eq (by rw[length_isort,hfl];omega) (by rw[length_isort,hfl];omega)]
 simp only[bind_some]
 have hE:compactL (isort ltI ((a++b).flatMap fun r=>[r.from_,r.to]))=ysL a b:=rfl
 rw[hE]
 obtain⟨p1,p2⟩:=pairsL_get Gspan.mk (ysL a b)
 have key:iter (rg_merge_s2 n a b φ ((),ysL a b)) n ((1:Int),([]:List Gspan))=some (mergeL keep a b):=by
  have:=iter_foldI (l:=pairsL Gspan.mk (ysL a b)) (step:=rg_merge_s2 n a b φ ((),ysL a b)) (fun i (s:List Gspan)=>(((i+1:Nat):Int),s)) (fun p s=>bif keep (inS a p.from_) (inS b p.from_)then ext s p else s) (fun s=>s) (fun i s=>s.length≤i)
   (fun i hi s hs=>?_) (fun s hs=>?_) n (by omega) [] (Nat.le_refl _)
  ·rw[show ((0+1:Nat):Int)=1 from rfl]at this
   rw[this,mergeL,foldl_filt]
  ·have hi2:i+1 < (ysL a b).length:=by omega
   have hi1:i < (ysL a b).length:=by omega
   have d:decide (((i+1:Nat):Int) < (((ysL a b).length:Nat):Int))=true:=by simp;omega
   have wp:i64.wrap (((i+1:Nat):Int) - 1)=((i:Nat):Int):=by rw[wrap_pred (by omega) (by omega)];rfl
   have pe:(pairsL Gspan.mk (ysL a b))[i]=Gspan.mk (ysL a b)[i] (ysL a b)[i+1]:=p2 i hi2 hi
   rw[pe]
   have lx:=length_ext s (Gspan.mk (ysL a b)[i] (ysL a b)[i+1])
   have ap:appOk s.length s.length (sub ([(Gspan.mk (ysL a b)[i] (ysL a b)[i+1])]:List Gspan) 0 1).length 1 16=true:=appOk_true (n:=1) (by omega) (by simp only[maxLen];omega)
   have sb:(sub ([(Gspan.mk (ysL a b)[i] (ysL a b)[i+1])]:List Gspan) 0 1)=[Gspan.mk (ysL a b)[i] (ysL a b)[i+1]]:=rfl
   refine⟨?_,by cases keep (inS a (ysL a b)[i]) (inS b (ysL a b)[i])<;>simp only[cond_true,cond_false]<;>omega⟩
   simp only[rg_merge_s2,d,cond_true,wp,inb_get hi1,at_getz hi1,bind_some,rg_inside_eq (n:=n) ha (show a.length < 1099511627776 by omega) (show a.length < n by omega),rg_inside_eq (n:=n) hb (show b.length < 1099511627776 by omega) (show b.length < n by omega),hφ]
   cases hk:keep (inS a (ysL a b)[i]) (inS b (ysL a b)[i])with
   |false=>
    simp only[Bool.not_false,cond_true,eqL_self,bind_some,cond_false]
    rw[wrap_succ (by omega)]
   |true=>
    simp only[Bool.not_true,cond_false,cond_true]
    rcases List.eq_nil_or_concat s with rfl |⟨s0,q,hsq⟩
    ·have d0:decide (((([]:List Gspan).length:Nat):Int)>0)=false:=by simp
     simp only[d0,cond_false,bind_some,inb_get hi2,at_getz hi2,cond_true,ap,letv_eq,eqL_self]
     rw[wrap_succ (by omega)]
     rfl
    ·rw[List.concat_eq_append]at hsq
     subst hsq
     have d0:decide (((((s0++[q]).length:Nat):Int))>0)=true:=by simp<;>omega
     have lenq:(s0++[q]).length=s0.length+1:=by simp
     have wq:i64.wrap ((((s0++[q]).length:Nat):Int) - 1)=((s0.length:Nat):Int):=by rw[wrap_pred (by simp) (by omega),lenq];rfl
     have ib2:inb ((s0.length:Nat):Int) (s0++[q]).length=true:=inb_get (by omega)
     have g:at? (s0++[q]) (((0:Nat):Int)+((s0.length:Nat):Int))=some q:=by rw[at_natz];simp
     have z:(((0:Nat):Int)+((s0.length:Nat):Int)).toNat=s0.length:=by simp
     have st:(s0++[q]).set s0.length (Gspan.mk q.from_ (ysL a b)[i+1])=s0++[⟨q.from_,(ysL a b)[i+1]⟩]:=by simp
     simp only[d0,cond_true,wq,ib2,g,bind_some,ext_concat]
     cases hj:q.to==(ysL a b)[i]with
     |true=>
      simp only[cond_true,inb_get hi2,at_getz hi2,bind_some,z,st]
      have e:eqL (s0++[q]).length (s0++[(⟨q.from_,(ysL a b)[i+1]⟩:Gspan)]).length=true:=by simp
      simp only[e,cond_true,bind_some,eqL_self]
      rw[wrap_succ (by omega)]
     |false=>
      rw[sb]at ap
      simp only[cond_false,inb_get hi2,at_getz hi2,bind_some,cond_true,sb,ap,letv_eq,eqL_self]
      rw[wrap_succ (by omega)]
  ·have d:decide ((((pairsL Gspan.mk (ysL a b)).length+1:Nat):Int) < (((ysL a b).length:Nat):Int))=false:=by simp;omega
   simp only[rg_merge_s2,d,cond_false,eqL_self,cond_true]
 rw[key]
 simp only[bind_some,sub_all,eqL_self,cond_true]
theorem combL_map (keep:Bool→Bool→Bool) (a b:List GRect):combL keep a b=(stripsL (a++b)).map fun s=>⟨s.x0,s.x1,mergeL keep (columnL a s.x0) (columnL b s.x0)⟩:=by
 have gen:∀ es:List Int,pairsL (fun x x'=>(⟨x,x',mergeL keep (columnL a x) (columnL b x)⟩:Gstrip)) es=(pairsL (fun x x'=>(⟨x,x',columnL (a++b) x⟩:Gstrip)) es).map fun s=>⟨s.x0,s.x1,mergeL keep (columnL a s.x0) (columnL b s.x0)⟩:=by
  intro es
  match es with
  |[]=>rfl
  |[_]=>rfl
  |x::y::l=>
   rw[pairsL_cons2,pairsL_cons2,map_cons]
   congr 1
   have:∀ es:List Int,pairsL (fun x x'=>(⟨x,x',mergeL keep (columnL a x) (columnL b x)⟩:Gstrip)) es=(pairsL (fun x x'=>(⟨x,x',columnL (a++b) x⟩:Gstrip)) es).map fun s=>⟨s.x0,s.x1,mergeL keep (columnL a s.x0) (columnL b s.x0)⟩:=by
    intro es
    induction es with
    |nil=>rfl
    |cons x es ih=>
     cases es with
     |nil=>rfl
     |cons y es=>rw[pairsL_cons2,pairsL_cons2,map_cons,ih]
   exact this (y::l)
 exact gen (edgesL (a++b))
theorem rg_combine_eq {n:Nat} {keep:Bool→Bool→Bool} {φ:(Bool×Bool×Unit)→Option Bool} (hφ:∀ p q,φ (p,q,())=some (keep p q)) {a b:List GRect} (ha:a.length < 1099511627776) (hb:b.length < 1099511627776) (hna:a.length < n) (hnb:b.length < n) (hn:1000≤n):rg_combine n a b φ=some (combineL keep a b):=by
 unfold rg_combine combineL
 rw[rg_Right_eq ha hna hn,bind_some]
 cases hra:rightL a with
 |false=>rfl
 |true=>
  rw[rg_Right_eq hb hnb hn]
  simp only[Bool.not_true,cond_false,bind_some,Bool.true_and]
  cases hrb:rightL b with
  |false=>rfl
  |true=>
   obtain⟨a1,a2,_⟩:=rightL_write hra
   obtain⟨b1,b2,_⟩:=rightL_write hrb
   have fa:[a].flatten=a:=by simp
   have fb:[b].flatten=b:=by simp
   have fab:[a,b].flatten=a++b:=by simp
   have hab:∀ r∈a++b,OkR r=true:=fun r hr=>by
    rcases mem_append.1 hr with hr |hr
    ·exact a1 r hr
    ·exact b1 r hr
   have sa:rg_strips n [a]=some (stripsL a):=by
    have:=rg_strips_eq (n:=n) (ls:=[a]) (by rw[fa];exact a1) (by rw[fa];omega) (by simp) (by rw[fa];omega) (by simp;omega)
    rwa [fa]at this
   have sb:rg_strips n [b]=some (stripsL b):=by
    have:=rg_strips_eq (n:=n) (ls:=[b]) (by rw[fb];exact b1) (by rw[fb];omega) (by simp) (by rw[fb];omega) (by simp;omega)
    rwa [fb]at this
   have lab:(a++b).length=a.length+b.length:=length_append
   have sab:rg_strips n [a,b]=some (stripsL (a++b)):=by
    have:=rg_strips_eq (n:=n) (ls:=[a,b]) (by rw[fab];exact hab) (by rw[fab,lab];omega) (by simp) (by rw[fab,lab];omega) (by simp;omega)
    rwa [fab]at this
   have e1:(sub ([a]:List (List GRect)) 0 1)=[a]:=rfl
   have e2:(sub ([b]:List (List GRect)) 0 1)=[b]:=rfl
   have e3:(sub ([a,b]:List (List GRect)) 0 2)=[a,b]:=rfl
   have q1:eqL ([a]:List (List GRect)).length 1=true:=rfl
   have q2:eqL ([b]:List (List GRect)).length 1=true:=rfl
   have q3:eqL ([a,b]:List (List GRect)).length 2=true:=rfl
   have la:=length_stripsL a
   have lb:=length_stripsL b
   have lS:=length_stripsL (a++b)
   rw[lab]at lS
   have mc:∀ x,(columnL a x).length≤200∧(columnL b x).length≤200:=fun x=>⟨Nat.le_trans (length_columnL a x) a2,Nat.le_trans (length_columnL b x) b2⟩
   have lm:∀ x,(mergeL keep (columnL a x) (columnL b x)).length≤800:=fun x=>by
    have:=length_mergeL keep (columnL a x) (columnL b x)
    have:=mc x
    omega
   have key:iter (rg_combine_s1 n φ (stripsL a) (stripsL b) (stripsL (a++b))) n ((0:Int),stripsL (a++b))=some (combL keep a b):=by
    have:=iter_to (step:=rg_combine_s1 n φ (stripsL a) (stripsL b) (stripsL (a++b))) (fun i=>(((i:Nat):Int),(combL keep a b).take i++(stripsL (a++b)).drop i)) (stripsL (a++b)).length (combL keep a b) (fun i hi=>?_) ?_ n (by omega)
    ·simpa using this
    ·have d:decide (((i:Nat):Int) < (((stripsL (a++b)).length:Nat):Int))=true:=by simpa using hi
     have lc:(combL keep a b).length=(stripsL (a++b)).length:=by rw[combL_map,List.length_map]
     have lt:((combL keep a b).take i).length=i:=by rw[length_take];omega
     have hd:(stripsL (a++b)).drop i=(stripsL (a++b))[i]::(stripsL (a++b)).drop (i+1):=List.drop_eq_getElem_cons hi
     have g:at? ((combL keep a b).take i++(stripsL (a++b)).drop i) (((0:Nat):Int)+((i:Nat):Int))=some (stripsL (a++b))[i]:=by
      rw[at_natz,List.getElem?_append_right (by omega),lt,hd];simp
     have st:∀ s:Gstrip,((combL keep a b).take i++(stripsL (a++b)).drop i).set i s=(combL keep a b).take i++s::(stripsL (a++b)).drop (i+1):=by
      intro s
      rw[List.set_append_right _ _ (by omega),lt,hd,Nat.sub_self];rfl
     have z:(((0:Nat):Int)+((i:Nat):Int)).toNat=i:=by simp
     have tk:(combL keep a b).take (i+1)=(combL keep a b).take i++[⟨(stripsL (a++b))[i].x0,(stripsL (a++b))[i].x1,mergeL keep (columnL a (stripsL (a++b))[i].x0) (columnL b (stripsL (a++b))[i].x0)⟩]:=by
      rw[List.take_succ_eq_append_getElem (by omega)]
      congr 2
      simp only[combL_map,List.getElem_map]
     have hm:=mc (stripsL (a++b))[i].x0
     have mg:rg_merge n (columnL a (stripsL (a++b))[i].x0) (columnL b (stripsL (a++b))[i].x0) φ=some (mergeL keep (columnL a (stripsL (a++b))[i].x0) (columnL b (stripsL (a++b))[i].x0)):=
      rg_merge_eq hφ (columnL_spec a1 _).1 (columnL_spec b1 _).1 (by omega) (by omega)
     have at1:rg_at n (stripsL a) (stripsL (a++b))[i].x0=some (columnL a (stripsL (a++b))[i].x0):=by
      rw[rg_at_eq (strips_stripsL a) (by omega) (by omega),colAt_stripsL]
     have at2:rg_at n (stripsL b) (stripsL (a++b))[i].x0=some (columnL b (stripsL (a++b))[i].x0):=by
      rw[rg_at_eq (strips_stripsL b) (by omega) (by omega),colAt_stripsL]
     simp only[rg_combine_s1,d,cond_true,inb_get hi,g,bind_some,sub_all,at1,at2,mg,eqL_self,z,st]
     rw[wrap_succ (by omega),tk,append_assoc]
     rfl
    ·have lc:(combL keep a b).length=(stripsL (a++b)).length:=by rw[combL_map,List.length_map]
     have d:decide ((((stripsL (a++b)).length:Nat):Int) < (((stripsL (a++b)).length:Nat):Int))=false:=by simp
     simp only[rg_combine_s1,d,cond_false,List.drop_length,List.append_nil]
     rw[List.take_of_length_le (by omega)]
   have lc:(combL keep a b).length=(stripsL (a++b)).length:=by rw[combL_map,List.length_map]
   have cc:∀ s∈combL keep a b,s.column.length≤800:=by
    intro s hs
    rw[combL_map,mem_map]at hs
    obtain⟨t,_,rfl⟩:=hs
    exact lm _
   have sl:sub (combL keep a b) 0 (stripsL (a++b)).length=combL keep a b:=by rw[← lc,sub_all]
   simp only[Bool.not_true,cond_false,e1,e2,e3,q1,q2,q3,cond_true,sa,sb,sab,bind_some,sub_all,eqL_self,key,sl,lc]
   rw[rg_write_eq (b:=800) (by omega) (by omega) cc (by omega) (by omega)]
   simp only[bind_some,sub_all,eqL_self,cond_true,rg_limited,if_true,Bool.and_self]
   by_cases h200:(writeL (combL keep a b)).length>200
   ·have:decide (((writeL (combL keep a b)).length:Int)>200)=true:=by simp;omega
    simp only[this,cond_true,bind_some,h200,if_true]
   ·have:decide (((writeL (combL keep a b)).length:Int)>200)=false:=by simp;omega
    simp only[this,cond_false,bind_some,h200,if_false]
theorem rg_Common_eq {n:Nat} {a b:List GRect} (ha:a.length < 1099511627776) (hb:b.length < 1099511627776) (hna:a.length < n) (hnb:b.length < n) (hn:1000≤n):rg_Common n a b=some (combineL (fun p q=>p&&q) a b):=by
 unfold rg_Common
 rw[rg_combine_eq (keep:=fun p q=>p&&q) (fun p q=>by show rg_Common_f1 p q=_;unfold rg_Common_f1;cases p<;>rfl) ha hb hna hnb hn]
 rfl
theorem rg_Minus_eq {n:Nat} {a b:List GRect} (ha:a.length < 1099511627776) (hb:b.length < 1099511627776) (hna:a.length < n) (hnb:b.length < n) (hn:1000≤n):rg_Minus n a b=some (combineL (fun p q=>p&&!q) a b):=by
 unfold rg_Minus
 rw[rg_combine_eq (keep:=fun p q=>p&&!q) (fun p q=>by show rg_Minus_f1 p q=_;unfold rg_Minus_f1;cases p<;>rfl) ha hb hna hnb hn]
 rfl
theorem combineL_len {keep:Bool→Bool→Bool} (a b:List GRect):(combineL keep a b).1.length≤200:=by
 unfold combineL
 split
 ·split
  ·simp
  ·show (writeL _).length≤200;omega
 ·simp
end Go.Proofs
namespace Go.Proofs
open Go.Gb Go.RowKit
def gapR (a b:GRect):Int:=bif (!OkR a || !OkR b)then -1 else max (max 0 (i64.wrap ((max a.x0 b.x0) - (min a.x1 b.x1)))) (i64.wrap ((max a.y0 b.y0) - (min a.y1 b.y1)))
theorem r_Gap_eq (a b:GRect):r_Gap a b=some (gapR a b):=by
 unfold r_Gap gapR
 rw[r_Right_eq,r_Right_eq]
 simp only[bind_some]
 cases OkR a<;>cases OkR b<;>rfl
def gapL (a b:List GRect):Int×Bool:=
 bif (decide (a=[]) || (decide (b=[]) || (!rightL a || !rightL b)))then (0,false)else (a.foldl (fun m x=>b.foldl (fun m y=>min m (gapR x y)) m) 1048576,true)
theorem of_Gap_s2_run {n:Nat} {b:List GRect} (hb:b.length < 1099511627776) (hn:b.length < n) (x:GRect) (m:Int):iter (of_Gap_s2 b x) n (m,(0:Int))=some (b.foldl (fun m y=>min m (gapR x y)) m):=by
 have:=iter_fold (l:=b) (step:=of_Gap_s2 b x) (fun i (s:Int)=>(s,((i:Nat):Int))) (fun y m=>min m (gapR x y)) (fun s=>s) (fun i hi s=>?_) (fun s=>by simp[of_Gap_s2]) n hn m
 ·exact this
 ·have hi':decide (((i:Nat):Int) < (b.length:Int))=true:=by simpa using hi
  simp only[of_Gap_s2,hi',cond_true,at_get hi,bind_some,r_Gap_eq]
  rw[wrap_succ (by omega)]
theorem of_Gap_eq {n:Nat} {a b:List GRect} (ha:a.length≤900) (hb:b.length≤900) (hn:1000≤n):of_Gap n a b=some (gapL a b):=by
 unfold of_Gap gapL
 have z:∀ l:List GRect,(((l.length:Int))==0)=decide (l=[]):=fun l=>by cases l<;>simp<;>omega
 rw[z a,z b,rg_Right_eq (by omega) (by omega) hn,rg_Right_eq (by omega) (by omega) hn]
 have loop:(iter (of_Gap_s1 n a b) n ((1048576:Int),(0:Int)))=some (a.foldl (fun m x=>b.foldl (fun m y=>min m (gapR x y)) m) 1048576):=by
  have:=iter_fold (l:=a) (step:=of_Gap_s1 n a b) (fun i (s:Int)=>(s,((i:Nat):Int))) (fun x m=>b.foldl (fun m y=>min m (gapR x y)) m) (fun s=>s) (fun i hi s=>?_) (fun s=>by simp[of_Gap_s1]) n (by omega) 1048576
  ·exact this
  ·have hi':decide (((i:Nat):Int) < (a.length:Int))=true:=by simpa using hi
   simp only[of_Gap_s1,hi',cond_true,at_get hi,bind_some]
   rw[of_Gap_s2_run (by omega) (by omega),bind_some,wrap_succ (by omega)]
 simp only[bind_some,loop]
 cases decide (a=[])<;>cases decide (b=[])<;>cases rightL a<;>cases rightL b<;>rfl
def noLot:GLot:=GLot.mk 0 0 [] []
def findLot (land:List GLot) (id:Int):GLot×Bool:=match land.find? fun t=>t.id==id with
 |some t=>(t,true)
 |none=>(noLot,false)
abbrev LotOk (t:GLot):Prop:=t.area.length≤900∧t.from_.length≤900
theorem pc_clone_eq {t:GLot} (h:LotOk t):pc_clone t=some t:=by
 unfold pc_clone
 rw[sl_Clone_Rect_eq (by omega),bind_some,sl_Clone_int_eq (by omega),bind_some]
 simp only[sub_all,eqL_self,cond_true]
theorem findL_find {α:Type} (p:α→Bool) (l:List α):(∃ (i:Nat) (h:i < l.length),findL p l=some i∧l.find? p=some l[i])∨(findL p l=none∧l.find? p=none):=by
 rcases findL_spec p l with ⟨i,hi,h1,h2,h3⟩ |⟨h1,h2⟩
 ·refine .inl ⟨i,hi,h1,?_⟩
  rw[List.find?_eq_some_iff_getElem]
  exact⟨h2,i,hi,rfl,fun j hj=>by simpa using h3 j hj⟩
 ·refine .inr ⟨h1,?_⟩
  rw[List.find?_eq_none]
  intro x hx;rw[h2 x hx];simp
theorem pc_Find_eq {n:Nat} {land:List GLot} {id:Int} (h:∀ t∈land,LotOk t) (hl:land.length < 1099511627776) (hn:land.length < n):pc_Find n land id=some (findLot land id):=by
 unfold pc_Find
 have:=iter_find (l:=land) (step:=pc_Find_s1 land id) (fun i=>(i:Int)) (fun t=>t.id==id) () (fun i=>(land.getD i noLot,true)) (fun i hi=>?_) ?_ n hn
 ·rw[show ((0:Nat):Int)=0 from rfl]at this
  rw[this]
  unfold findLot
  rcases findL_find (fun t:GLot=>t.id==id) land with ⟨i,hi,h1,h2⟩ |⟨h1,h2⟩
  ·rw[h1,h2];simp[hi]
  ·rw[h1,h2];rfl
 ·have hi':decide (((i:Nat):Int) < (land.length:Int))=true:=by simpa using hi
  simp only[pc_Find_s1,hi',cond_true,at_get hi,bind_some,pc_clone_eq (h _ (List.getElem_mem hi))]
  cases land[i].id==id with
  |true=>simp[hi]
  |false=>simp only[cond_false];rw[wrap_succ (by omega)]
 ·simp[pc_Find_s1]
theorem findLot_ok {land:List GLot} (h:∀ t∈land,LotOk t) (id:Int):LotOk (findLot land id).1:=by
 unfold findLot
 split
 ·rename_i t ht
  exact h t (List.mem_of_find?_eq_some ht)
 ·simp[LotOk,noLot]
def isNear (t:GLot) (id d:Int) (u:GLot):Bool:=(gapL t.area u.area).2&&(decide ((gapL t.area u.area).1≤d)&&(u.id != id))
def nearIds (land:List GLot) (t:GLot) (id d:Int):List Int:=(land.filter fun u=>isNear t id d u).map (·.id)
def nearL (land:List GLot) (id d:Int):List Int:=
 bif (findLot land id).2 then setL (nearIds land (findLot land id).1 id d)else []
theorem pc_Near_s1_run {n:Nat} {land:List GLot} (hl:land.length < 10995116277) (hn:land.length < n):iter (pc_Near_s1 land) n ((0:Int),([]:List (List GRect)))=some (land.map (·.area)):=by
 have:=iter_to (step:=pc_Near_s1 land) (fun i=>(((i:Nat):Int),(land.take i).map (·.area))) land.length (land.map (·.area)) (fun i hi=>?_) ?_ n hn
 ·simpa using this
 ·have hi':decide (((i:Nat):Int) < (land.length:Int))=true:=by simpa using hi
  have ap:appOk ((land.take i).map (·.area)).length ((land.take i).map (·.area)).length (sub ([land[i].area]:List (List GRect)) 0 1).length 1 24=true:=by
   refine appOk_true (n:=1) ?_ ?_
   ·rw[List.length_map,length_take];omega
   ·rw[List.length_map,length_take];simp only[maxLen];omega
  simp only[pc_Near_s1,hi',cond_true,at_get hi,bind_some,ap,letv_eq,eqL_self]
  rw[wrap_succ (by omega),List.take_succ_eq_append_getElem hi,List.map_append]
  rfl
 ·simp[pc_Near_s1]
theorem pc_Near_eq {n:Nat} {land:List GLot} {id d:Int} (h:∀ t∈land,LotOk t) (hl:land.length≤100) (hn:1000≤n):pc_Near n land id d=some (nearL land id d):=by
 unfold pc_Near nearL
 rw[pc_Find_eq h (by omega) (by omega)]
 simp only[bind_some]
 cases hf:(findLot land id).2 with
 |false=>rfl
 |true=>
  have ht:=findLot_ok h id
  simp only[Bool.not_true,cond_false,List.length_nil,eqL_self,cond_true,pc_Near_s1_run (land:=land) (n:=n) (by omega) (by omega),bind_some]
  have key:iter (pc_Near_s2 n land id d (findLot land id) (land.map (·.area))) n ((0:Int),([]:List Int))=some (nearIds land (findLot land id).1 id d):=by
   have:=iter_foldI (l:=land) (step:=pc_Near_s2 n land id d (findLot land id) (land.map (·.area))) (fun i (s:List Int)=>(((i:Nat):Int),s)) (fun u s=>bif isNear (findLot land id).1 id d u then s++[u.id]else s) (fun s=>s) (fun i s=>s.length≤i)
    (fun i hi s hs=>?_) (fun s hs=>by simp[pc_Near_s2]) n (by omega) [] (Nat.le_refl _)
   ·rw[show ((0:Nat):Int)=0 from rfl]at this
    rw[this]
    have gen:∀ (ys:List GLot) (s:List Int),ys.foldl (fun s u=>bif isNear (findLot land id).1 id d u then s++[u.id]else s) s=s++nearIds ys (findLot land id).1 id d:=by
     intro ys
     induction ys with
     |nil=>intro s;simp[nearIds]
     |cons y ys ih=>
      intro s
      simp only[List.foldl_cons,ih,nearIds]
      cases hy:isNear (findLot land id).1 id d y<;>simp[hy]
    rw[gen];simp
   ·have hlm:(land.map (·.area)).length=land.length:=by simp
    have hi':decide (((i:Nat):Int) < (((land.map (·.area)).length:Nat):Int))=true:=by rw[hlm];simpa using hi
    have ib:inb ((i:Nat):Int) (land.map (·.area)).length=true:=inb_get (by omega)
    have g:at? (land.map (·.area)) (((0:Nat):Int)+((i:Nat):Int))=some land[i].area:=by rw[at_natz];simp[hi]
    have hu:=h _ (List.getElem_mem hi)
    have ap:appOk s.length s.length (sub ([land[i].id]:List Int) 0 1).length 1 8=true:=appOk_true (n:=1) (by omega) (by simp only[maxLen];omega)
    have gp:of_Gap n (findLot land id).1.area land[i].area=some (gapL (findLot land id).1.area land[i].area):=of_Gap_eq ht.1 hu.1 hn
    simp only[pc_Near_s2,hi',cond_true,ib,g,bind_some,gp,at_get hi]
    have e:((bif (gapL (findLot land id).1.area land[i].area).2 then (bif (decide ((gapL (findLot land id).1.area land[i].area).1≤d))then some (land[i].id != id)else some false)else some false):Option Bool)=some (isNear (findLot land id).1 id d land[i]):=by
     unfold isNear
     cases (gapL (findLot land id).1.area land[i].area).2<;>cases decide ((gapL (findLot land id).1.area land[i].area).1≤d)<;>rfl
    rw[e]
    simp only[bind_some]
    cases isNear (findLot land id).1 id d land[i]with
    |true=>
     simp only[cond_true,ap,letv_eq,eqL_self,bind_some]
     refine⟨?_,by simp;omega⟩
     rw[wrap_succ (by omega)];rfl
    |false=>
     simp only[cond_false,eqL_self,cond_true,bind_some]
     exact⟨by rw[wrap_succ (by omega)],by omega⟩
  have hlen:(nearIds land (findLot land id).1 id d).length≤100:=by
   unfold nearIds
   rw[List.length_map]
   exact Nat.le_trans (List.length_filter_le _ _) hl
  rw[key]
  simp only[bind_some,eqL_self,cond_true]
  rw[sl_Sort_int_eq (by omega) (by omega)]
  simp only[bind_some,length_isort,eqL_self,cond_true]
  rw[sl_Compact_int_eq (by rw[length_isort];omega) (by rw[length_isort];omega)]
  simp only[bind_some,sub_all,eqL_self,cond_true]
  rfl
def useNames:List ByteArray:=[⟨#[104,111,109,101]⟩,⟨#[115,104,111,112]⟩,⟨#[119,111,114,107]⟩,⟨#[112,97,114,107]⟩,⟨#[112,108,97,110,116]⟩,⟨#[104,97,108,108]⟩]
def nameOf (use:Int):Option ByteArray:=at? useNames use
theorem length_setL (l:List Int):(setL l).length≤l.length:=by
 unfold setL
 have:=length_compactL (isort (fun a b=>decide (a < b)) l)
 rwa [length_isort]at this
end Go.Proofs
namespace Go.Proofs
open Go.Gb Go.RowKit
end Go.Proofs
namespace Go.Proofs
open Go.Gb Go.RowKit
def gxR (a b:GRect):Int:=i64.wrap ((max a.x0 b.x0) - (min a.x1 b.x1))
def gyR (a b:GRect):Int:=i64.wrap ((max a.y0 b.y0) - (min a.y1 b.y1))
def touchR (a b:GRect):Bool:=(OkR a&&OkR b)&&((gxR a b==0&&decide (gyR a b < 0)) || (gyR a b==0&&decide (gxR a b < 0)))
theorem r_Touch_eq (a b:GRect):r_Touch a b=some (touchR a b):=by
 unfold r_Touch r_gaps touchR
 rw[r_Right_eq,r_Right_eq]
 simp only[bind_some]
 cases OkR a<;>cases OkR b<;>simp only[Bool.not_true,Bool.not_false,cond_true,cond_false,bind_some,Bool.and_self,Bool.false_and,Bool.and_false,Bool.true_and]
 show (bif gxR a b==0 then (bif decide (gyR a b < 0)then some true else (bif gyR a b==0 then some (decide (gxR a b < 0))else some false))else (bif gyR a b==0 then some (decide (gxR a b < 0))else some false))=_
 cases gxR a b==0<;>cases decide (gyR a b < 0)<;>cases gyR a b==0<;>simp
theorem Parts_f1_eq {part:List GRect} {i:Nat} (hi:i < part.length) (hl:part.length < 1099511627) (x:GRect):
 rg_Parts_f1_v1 x (i:Int) part=some (touchR part[i] x,(i:Int),bif touchR part[i] x then part++[x]else part):=by
 unfold rg_Parts_f1_v1
 have ap:appOk part.length part.length (sub ([x]:List GRect) 0 1).length 1 32=true:=appOk_true (n:=1) (by omega) (by simp only[maxLen];omega)
 rw[inb_get hi,at_getz hi]
 simp only[cond_true,bind_some,r_Touch_eq,ap,letv_eq,eqL_self]
 cases touchR part[i] x<;>rfl
theorem IndexFunc_v1_eq {n:Nat} {l part:List GRect} {i:Nat} (hi:i < part.length) (hp:part.length < 1099511627) (hl:l.length < 1099511627) (hn:l.length < n):
 sl_IndexFunc_Rect_v1 n l (i:Int) part=some (match findL (fun x=>touchR part[i] x) l with
  |some k=>((k:Int),(i:Int),part++[l.getD k (GRect.mk 0 0 0 0)])
  |none=>(-1,(i:Int),part)):=by
 unfold sl_IndexFunc_Rect_v1
 have:=iter_find (l:=l) (step:=sl_IndexFunc_Rect_v1_s1 l) (fun k=>(((k:Nat):Int),(i:Int),part)) (fun x=>touchR part[i] x) ((i:Int),part) (fun k=>((k:Int),(i:Int),part++[l.getD k (GRect.mk 0 0 0 0)])) (fun k hk=>?_) ?_ n hn
 ·rw[show ((0:Nat):Int)=0 from rfl]at this
  rw[this,eqL_self]
  cases findL (fun x=>touchR part[i] x) l with
  |none=>simp
  |some k=>simp
 ·have hk':decide (((k:Nat):Int) < (l.length:Int))=true:=by simpa using hk
  simp only[sl_IndexFunc_Rect_v1_s1,hk',cond_true,at_get hk,bind_some,eqL_self,Parts_f1_eq hi hp]
  cases touchR part[i] l[k]with
  |true=>simp[hk]
  |false=>simp only[cond_false];rw[wrap_succ (by omega)]
 ·simp[sl_IndexFunc_Rect_v1_s1]
structure DelI (full:List GRect) (off:Nat) (p:GRect) (part:List GRect) (j w:Nat) (arr prt:List GRect):Prop where
 len:arr.length=full.length
 pre:arr.take (off+w)=full.take off++((full.drop off).take j).filter fun x=>!touchR p x
 post:arr.drop (off+j)=full.drop (off+j)
 wl:w=(((full.drop off).take j).filter fun x=>!touchR p x).length
 prt:prt=part++((full.drop off).take j).filter fun x=>touchR p x
theorem DelI.wle {full:List GRect} {off:Nat} {p:GRect} {part:List GRect} {j w:Nat} {arr prt:List GRect} (h:DelI full off p part j w arr prt):w≤j:=by
 rw[h.wl]
 exact Nat.le_trans (List.length_filter_le _ _) (by rw[length_take];omega)
theorem DelI.step {full:List GRect} {off:Nat} {p:GRect} {part:List GRect} {j w:Nat} {arr prt:List GRect} (h:DelI full off p part j w arr prt) (hj:off+j < full.length):
 (touchR p full[off+j]=true→DelI full off p part (j+1) w arr (prt++[full[off+j]]))∧(touchR p full[off+j]=false→DelI full off p part (j+1) (w+1) (arr.set (off+w) full[off+j]) prt):=by
 have hw:=h.wle
 have ht:(full.drop off).take (j+1)=(full.drop off).take j++[full[off+j]]:=by
  rw[List.take_succ_eq_append_getElem (by rw[List.length_drop];omega),List.getElem_drop]
 have hpost:∀ arr':List GRect,arr'.drop (off+j)=full.drop (off+j)→arr'.drop (off+(j+1))=full.drop (off+(j+1)):=fun arr' hh=>by
  have:=congrArg (List.drop 1) hh
  rw[List.drop_drop,List.drop_drop]at this
  exact this
 constructor
 ·intro hx
  refine⟨h.len,?_,hpost _ h.post,?_,?_⟩
  ·rw[ht,List.filter_append];simp[hx,h.pre]
  ·rw[ht,List.filter_append];simp[hx,← h.wl]
  ·rw[ht,List.filter_append];simp[hx,h.prt]
 ·intro hx
  have hlt:off+w < arr.length:=by rw[h.len];omega
  refine⟨by rw[List.length_set];exact h.len,?_,?_,?_,?_⟩
  ·rw[ht,List.filter_append,show off+(w+1)=(off+w)+1 by omega,List.take_succ_eq_append_getElem (by rw[List.length_set];exact hlt),List.take_set_of_le (Nat.le_refl _),h.pre]
   simp[hx]
  ·refine hpost _ ?_
   rcases Nat.lt_or_ge w j with hwj |hwj
   ·rw[List.drop_set_of_lt (by omega)];exact h.post
   ·have:w=j:=by omega
    subst this
    rw[List.drop_set,if_neg (by omega),h.post]
    simp only[Nat.sub_self]
    rw[List.drop_eq_getElem_cons hj];rfl
  ·rw[ht,List.filter_append];simp[hx,← h.wl]
  ·rw[ht,List.filter_append];simp[hx,h.prt]
theorem findL_first {α:Type} {p:α→Bool}:∀ {l:List α} {k:Nat},findL p l=some k→∃ h:k < l.length,p l[k]=true∧(l.take k).filter p=[]∧(l.take k).filter (fun x=>!p x)=l.take k:=by
 intro l k h
 rcases findL_spec p l with ⟨i,hi,h1,h2,h3⟩ |⟨h1,_⟩
 ·rw[h]at h1
  injection h1 with h1
  subst h1
  have hall:∀ x∈l.take k,p x=false:=by
   intro x hx
   obtain⟨j,hj,rfl⟩:=List.mem_iff_getElem.1 hx
   rw[List.getElem_take]
   exact h3 j (by rw[length_take]at hj;omega)
  exact⟨hi,h2,List.filter_eq_nil_iff.2 fun x hx=>by simp[hall x hx],List.filter_eq_self.2 fun x hx=>by simp[hall x hx]⟩
 ·rw[h]at h1;cases h1
theorem DeleteFunc_v1_eq {n:Nat} {full part:List GRect} {off i:Nat} (ho:off≤full.length) (hi:i < part.length) (hp:part.length+full.length < 109951162) (hn:full.length < n):
 sl_DeleteFunc_Rect_v1 n (off:Int) full (i:Int) part=some ((off:Int),full.take off++(full.drop off).filter (fun x=>!touchR part[i] x),(i:Int),part++(full.drop off).filter fun x=>touchR part[i] x):=by
 unfold sl_DeleteFunc_Rect_v1
 have e1:sub full off (full.length - off)=full.drop off:=by simp[sub,List.take_of_length_le]
 simp only[Int.toNat_natCast,e1,List.length_drop,eqL_self,cond_true]
 rw[IndexFunc_v1_eq hi (by omega) (by rw[List.length_drop];omega) (by rw[List.length_drop];omega),bind_some]
 cases hf:findL (fun x=>touchR part[i] x) (full.drop off)with
 |none=>
  have hno:∀ x∈full.drop off,touchR part[i] x=false:=by
   rcases findL_spec (fun x=>touchR part[i] x) (full.drop off)with ⟨k,hk,h1,_⟩ |⟨_,h2⟩
   ·rw[hf]at h1;cases h1
   ·exact h2
  have f1:(full.drop off).filter (fun x=>!touchR part[i] x)=full.drop off:=List.filter_eq_self.2 fun x hx=>by simp[hno x hx]
  have f2:(full.drop off).filter (fun x=>touchR part[i] x)=[]:=List.filter_eq_nil_iff.2 fun x hx=>by simp[hno x hx]
  have e2:off+(full.length - off)=full.length:=by omega
  simp only[beq_self_eq_true,cond_true,e2,eqL_self,f1,f2,List.append_nil,List.take_append_drop]
 |some k=>
  obtain⟨hk,h2,h3,h4⟩:=findL_first hf
  rw[List.length_drop]at hk
  rw[List.getElem_drop]at h2
  have hkf:off+k < full.length:=by omega
  have e3:(full.drop off).getD k (GRect.mk 0 0 0 0)=full[off+k]:=by
   rw[List.getD_eq_getElem?_getD,List.getElem?_drop,List.getElem?_eq_getElem hkf];rfl
  have e4:(((k:Nat):Int)== -1)=false:=by
   rw[beq_eq_false_iff_ne];omega
  simp only[e4,cond_false,eqL_self,cond_true,e3]
  rw[wrap_succ (by omega)]
  have start:DelI full off part[i] part (k+1) k full (part++[full[off+k]]):=by
   refine⟨rfl,?_,rfl,?_,?_⟩
   ·have ht:(full.drop off).take (k+1)=(full.drop off).take k++[full[off+k]]:=by
     rw[List.take_succ_eq_append_getElem (by rw[List.length_drop];omega),List.getElem_drop]
    rw[ht,List.filter_append,h4]
    simp only[h2,Bool.not_true,List.filter_cons,Bool.false_eq_true,if_false,List.filter_nil,List.append_nil]
    rw[List.take_add]
   ·have ht:(full.drop off).take (k+1)=(full.drop off).take k++[full[off+k]]:=by
     rw[List.take_succ_eq_append_getElem (by rw[List.length_drop];omega),List.getElem_drop]
    rw[ht,List.filter_append,h4]
    simp[h2];omega
   ·have ht:(full.drop off).take (k+1)=(full.drop off).take k++[full[off+k]]:=by
     rw[List.take_succ_eq_append_getElem (by rw[List.length_drop];omega),List.getElem_drop]
    rw[ht,List.filter_append,h3]
    simp[h2]
  have loop:∀ (m j w:Nat) (arr prt:List GRect) (n:Nat),j+m=full.length - off→m < n→DelI full off part[i] part j w arr prt→
   ∃ (w':Nat) (arr' prt':List GRect),iter (sl_DeleteFunc_Rect_v1_s1 (off:Int) full) n ((w:Int),(j:Int),arr,(i:Int),prt)=some ((w':Int),arr',(i:Int),prt')∧DelI full off part[i] part (full.length - off) w' arr' prt':=by
   intro m
   induction m with
   |zero=>
    intro j w arr prt n hm hn hd
    obtain⟨n,rfl⟩:∃ q,n=q+1:=⟨n - 1,by omega⟩
    have hj:j=full.length - off:=by omega
    subst hj
    refine⟨w,arr,prt,iter_inr ?_,hd⟩
    simp[sl_DeleteFunc_Rect_v1_s1]
   |succ m ih=>
    intro j w arr prt n hm hn hd
    obtain⟨n,rfl⟩:∃ q,n=q+1:=⟨n - 1,by omega⟩
    have hjf:off+j < full.length:=by omega
    have hwj:=hd.wle
    have hpl:prt.length≤part.length+full.length:=by
     rw[hd.prt,length_append]
     have:=List.length_filter_le (fun x=>touchR part[i] x) ((full.drop off).take j)
     rw[length_take,List.length_drop]at this
     omega
    have hip:i < prt.length:=by rw[hd.prt,length_append];omega
    have hpi:prt[i]=part[i]:=by
     have:prt[i]? =part[i]? :=by rw[hd.prt,List.getElem?_append_left hi]
     rw[List.getElem?_eq_getElem hip,List.getElem?_eq_getElem hi]at this
     exact Option.some.inj this
    have harr:arr[off+j]'(by rw[hd.len];exact hjf)=full[off+j]:=by
     have:=congrArg (fun l=>l[0]?) hd.post
     simp only[List.getElem?_drop,Nat.add_zero]at this
     rw[List.getElem?_eq_getElem hjf,List.getElem?_eq_getElem (by rw[hd.len];exact hjf)]at this
     exact Option.some.inj this
    have c1:decide ((j:Int) < (((full.length - off:Nat):Int):Int))=true:=by simp;omega
    have at1:at? arr (((off:Nat):Int)+(j:Int))=some full[off+j]:=by
     rw[show ((off:Int)+(j:Int))=((off+j:Nat):Int)by omega,at_nat,List.getElem?_eq_getElem (by rw[hd.len];exact hjf),harr]
    have at2:∃ z,at? arr (((off:Nat):Int)+(w:Int))=some z:=by
     rw[show ((off:Int)+(w:Int))=((off+w:Nat):Int)by omega,at_nat]
     exact⟨_,List.getElem?_eq_getElem (by rw[hd.len];omega)⟩
    obtain⟨z,at2⟩:=at2
    obtain⟨d1,d2⟩:=hd.step hjf
    cases hx:touchR part[i] full[off+j]with
    |true=>
     have hs:sl_DeleteFunc_Rect_v1_s1 (off:Int) full ((w:Int),(j:Int),arr,(i:Int),prt)=some (.inl ((w:Int),((j+1:Nat):Int),arr,(i:Int),prt++[full[off+j]])):=by
      simp only[sl_DeleteFunc_Rect_v1_s1,Int.toNat_natCast,c1,cond_true,inb_nat,show decide (j < full.length - off)=true by simp;omega,at1,bind_some,eqL_self,Parts_f1_eq hip (by omega),hpi,hx,Bool.not_true,cond_false]
      rw[wrap_succ (by omega)]
     rw[iter_inl hs]
     exact ih (j+1) w arr _ n (by omega) (by omega) (d1 hx)
    |false=>
     have hs:sl_DeleteFunc_Rect_v1_s1 (off:Int) full ((w:Int),(j:Int),arr,(i:Int),prt)=some (.inl (((w+1:Nat):Int),((j+1:Nat):Int),arr.set (off+w) full[off+j],(i:Int),prt)):=by
      simp only[sl_DeleteFunc_Rect_v1_s1,Int.toNat_natCast,c1,cond_true,inb_nat,show decide (j < full.length - off)=true by simp;omega,at1,bind_some,eqL_self,Parts_f1_eq hip (by omega),hpi,hx,Bool.not_false,cond_false,show decide (w < full.length - off)=true by simp;omega,at2]
      rw[wrap_succ (by omega),wrap_succ (by omega),show (((off:Nat):Int)+(w:Int)).toNat=off+w by omega]
     rw[iter_inl hs]
     exact ih (j+1) (w+1) _ prt n (by omega) (by omega) (d2 hx)
  obtain⟨w',arr',prt',h5,h6⟩:=loop (full.length - off - (k+1)) (k+1) k full _ n (by omega) (by omega) start
  rw[h5]
  have hwl:=h6.wle
  have htk:(full.drop off).take (full.length - off)=full.drop off:=List.take_of_length_le (by rw[List.length_drop];exact Nat.le_refl _)
  have hpre:=h6.pre
  have hprt:=h6.prt
  rw[htk]at hpre hprt
  have e5:(arr'.take (off+w')).length=off+w':=by rw[length_take,h6.len];omega
  have s1:slOk (w':Int) ((full.length - off:Nat):Int) (full.length - off)=true:=slOk_true (by omega) (by omega) (by omega)
  have s2:slOk 0 (w':Int) (full.length - off)=true:=slOk_true (by omega) (by omega) (by omega)
  rw[hpre]at e5
  simp only[bind_some,s1,s2,cond_true,Int.toNat_natCast,hpre,e5,eqL_self,hprt]
def growF:Nat→List GRect→Nat→List GRect→List GRect×List GRect
 | 0,part,_,left=>(part,left)
 |f+1,part,i,left=>match part[i]? with
  |none=>(part,left)
  |some p=>growF f (part++left.filter fun x=>touchR p x) (i+1) (left.filter fun x=>!touchR p x)
theorem filter_two {α:Type} (p:α→Bool) (l:List α):(l.filter p).length+(l.filter fun x=>!p x).length=l.length:=by
 induction l with
 |nil=>rfl
 |cons x l ih=>cases h:p x<;>simp[h]<;>omega
theorem growF_len:∀ (f:Nat) (part left:List GRect) (i:Nat),(growF f part i left).1.length+(growF f part i left).2.length=part.length+left.length
 | 0,_,_,_=>rfl
 |f+1,part,left,i=>by
  simp only[growF]
  split
  ·rfl
  ·rename_i p _
   rw[growF_len f,length_append]
   have:=filter_two (fun x=>touchR p x) left
   omega
theorem growF_le:∀ (f:Nat) (part left:List GRect) (i:Nat),part.length≤(growF f part i left).1.length
 | 0,_,_,_=>Nat.le_refl _
 |f+1,part,left,i=>by
  simp only[growF]
  split
  ·exact Nat.le_refl _
  ·exact Nat.le_trans (by rw[length_append];omega) (growF_le f _ _ _)
theorem Parts_s2_run:∀ (m f n:Nat) (full part:List GRect) (off i:Nat),off≤full.length→part.length+(full.length - off)=i+m→m < f→part.length+full.length < 109951162→full.length < n→∀ k,m < k→
 ∃ full',off≤full'.length∧full'.length≤full.length∧full'.drop off=(growF f part i (full.drop off)).2∧
   iter (rg_Parts_s2 n) k ((off:Int),full,(i:Int),part)=some ((off:Int),full',(growF f part i (full.drop off)).1):=by
 intro m
 induction m with
 |zero=>
  intro f n full part off i ho hm hf hl hn k hk
  obtain⟨k,rfl⟩:∃ q,k=q+1:=⟨k - 1,by omega⟩
  obtain⟨f,rfl⟩:∃ q,f=q+1:=⟨f - 1,by omega⟩
  have hi:part.length≤i:=by omega
  have hnone:part[i]? =none:=List.getElem?_eq_none hi
  have e2:off+(full.length - off)=full.length:=by omega
  refine⟨full,ho,Nat.le_refl _,by simp only[growF,hnone],iter_inr ?_⟩
  have c:decide ((i:Int) < ((part.length:Nat):Int))=false:=by simp;omega
  simp only[rg_Parts_s2,c,cond_false,Int.toNat_natCast,e2,eqL_self,cond_true,growF,hnone]
 |succ m ih=>
  intro f n full part off i ho hm hf hl hn k hk
  obtain⟨k,rfl⟩:∃ q,k=q+1:=⟨k - 1,by omega⟩
  obtain⟨f,rfl⟩:∃ q,f=q+1:=⟨f - 1,by omega⟩
  have e2:off+(full.length - off)=full.length:=by omega
  by_cases hi:i < part.length
  ·have c:decide ((i:Int) < ((part.length:Nat):Int))=true:=by simpa using hi
   have ft:=filter_two (fun x=>touchR part[i] x) (full.drop off)
   rw[List.length_drop]at ft
   have hfull:(full.take off++(full.drop off).filter fun x=>!touchR part[i] x).length=off+((full.drop off).filter fun x=>!touchR part[i] x).length:=by
    rw[length_append,length_take,Nat.min_eq_left ho]
   have hdrop:(full.take off++(full.drop off).filter fun x=>!touchR part[i] x).drop off=(full.drop off).filter fun x=>!touchR part[i] x:=by
    have:(full.take off).length=off:=by rw[length_take,Nat.min_eq_left ho]
    rw[List.drop_append_of_le_length (by omega),List.drop_of_length_le (by omega),nil_append]
   have hs:rg_Parts_s2 n ((off:Int),full,(i:Int),part)=some (.inl ((off:Int),full.take off++(full.drop off).filter (fun x=>!touchR part[i] x),((i+1:Nat):Int),part++(full.drop off).filter fun x=>touchR part[i] x)):=by
    simp only[rg_Parts_s2,c,cond_true,Int.toNat_natCast,e2,eqL_self,DeleteFunc_v1_eq ho hi hl hn,bind_some]
    rw[hfull,show off+(off+((full.drop off).filter fun x=>!touchR part[i] x).length - off)=off+((full.drop off).filter fun x=>!touchR part[i] x).length by omega,eqL_self]
    simp only[cond_true]
    rw[wrap_succ (by omega)]
   rw[iter_inl hs]
   obtain⟨full',h1,h1',h2,h3⟩:=ih f n (full.take off++(full.drop off).filter fun x=>!touchR part[i] x) (part++(full.drop off).filter fun x=>touchR part[i] x) off (i+1) (by rw[hfull];omega) (by rw[hfull,length_append];omega) (by omega)
    (by rw[hfull,length_append];omega) (by rw[hfull];omega) k (by omega)
   refine⟨full',h1,Nat.le_trans h1' (by rw[hfull];omega),?_,?_⟩
   ·rw[h2,hdrop];simp only[growF,List.getElem?_eq_getElem hi]
   ·rw[h3,hdrop];simp only[growF,List.getElem?_eq_getElem hi]
  ·have hnone:part[i]? =none:=List.getElem?_eq_none (by omega)
   refine⟨full,ho,Nat.le_refl _,by simp only[growF,hnone],iter_inr ?_⟩
   have c:decide ((i:Int) < ((part.length:Nat):Int))=false:=by simp;omega
   simp only[rg_Parts_s2,c,cond_false,Int.toNat_natCast,e2,eqL_self,cond_true,growF,hnone]
def partsF:Nat→List GRect→List (List GRect)
 | 0,_=>[]
 |_+1,[]=>[]
 |f+1,x::xs=>writeL (stripsL (growF (xs.length+2) [x] 0 xs).1)::partsF f (growF (xs.length+2) [x] 0 xs).2
def partsL (a:List GRect):List (List GRect):=bif rightL a then partsF (a.length+1) a else []
theorem growF_mem:∀ (f:Nat) (part left:List GRect) (i:Nat) (r:GRect),(r∈(growF f part i left).1∨r∈(growF f part i left).2)↔(r∈part∨r∈left)
 | 0,_,_,_,_=>Iff.rfl
 |f+1,part,left,i,r=>by
  simp only[growF]
  split
  ·exact Iff.rfl
  ·rename_i p _
   rw[growF_mem f,mem_append,List.mem_filter,List.mem_filter]
   cases h:touchR p r<;>simp
theorem Parts_s1_run {n:Nat} (hn:1000≤n):∀ (f:Nat) (full:List GRect) (off:Nat) (out:List (List GRect)),(∀ r∈full.drop off,OkR r=true)→off≤full.length→full.length≤200→out.length+(full.length - off)≤200→full.length - off < f→∀ k,full.length - off < k→
 iter (rg_Parts_s1 n) k ((off:Int),full,out)=some (out++partsF f (full.drop off)):=by
 intro f
 induction f with
 |zero=>intro full off out _ _ _ _ hf;omega
 |succ f ih=>
  intro full off out hv ho h6 hout hf k hk
  obtain⟨k,rfl⟩:∃ q,k=q+1:=⟨k - 1,by omega⟩
  by_cases h0:off < full.length
  ·have hd:full.drop off=full[off]::full.drop (off+1):=List.drop_eq_getElem_cons h0
   have c:decide ((((full.length - off:Nat):Nat):Int)>0)=true:=by simp;omega
   have c2:inb 0 (full.length - off)=true:=by have:=inb_get (i:=0) (n:=full.length - off) (by omega);simpa using this
   have at0:at? full (((off:Nat):Int)+0)=some full[off]:=by rw[Int.add_zero,at_get h0]
   have sl:slOk 1 ((full.length - off:Nat):Int) (full.length - off)=true:=slOk_true (by omega) (by omega) (by omega)
   have e1:off+1+(full.length - off - 1)=full.length:=by omega
   have hdl:(full.drop (off+1)).length=full.length - (off+1):=List.length_drop
   obtain⟨full',g1,g1',g2,g3⟩:=Parts_s2_run (full.length - (off+1)+1) ((full.drop (off+1)).length+2) n full [full[off]] (off+1) 0 (by omega) (by simp;omega) (by omega) (by simp;omega) (by omega) n (by omega)
   have hg1:=growF_len ((full.drop (off+1)).length+2) [full[off]] (full.drop (off+1)) 0
   have hg2:=growF_le ((full.drop (off+1)).length+2) [full[off]] (full.drop (off+1)) 0
   have hg3:∀ r,(r∈(growF ((full.drop (off+1)).length+2) [full[off]] 0 (full.drop (off+1))).1∨r∈(growF ((full.drop (off+1)).length+2) [full[off]] 0 (full.drop (off+1))).2)→OkR r=true:=by
    intro r hr
    rw[growF_mem]at hr
    refine hv r ?_
    rw[hd,mem_cons]
    rcases hr with hr |hr
    ·exact .inl (by simpa using hr)
    ·exact .inr hr
   simp only[List.length_cons,List.length_nil]at hg1 hg2
   generalize hG:growF ((full.drop (off+1)).length+2) [full[off]] 0 (full.drop (off+1))=G at*
   have hG6:G.1.length≤200:=by omega
   have g3':iter (rg_Parts_s2 n) n ((((off+1:Nat)):Int),full,(0:Int),([full[off]]:List GRect))=some (((off+1:Nat):Int),full',G.1):=g3
   have s1:(sub ([G.1]:List (List GRect)) 0 1)=[G.1]:=rfl
   have lst:=length_stripsL G.1
   have w1:rg_write n (stripsL G.1)=some (writeL (stripsL G.1)):=rg_write_eq (b:=200) (by omega) (by omega) (fun s hs=>Nat.le_trans (stripsL_col hs) hG6) (by omega) (by omega)
   have flat:[G.1].flatten=G.1:=by simp
   have st1:rg_strips n [G.1]=some (stripsL G.1):=by
    have:=rg_strips_eq (n:=n) (ls:=[G.1]) (by rw[flat];exact fun r hr=>hg3 r (.inl hr)) (by rw[flat];omega) (by simp) (by rw[flat];omega) (by simp;omega)
    rw[flat]at this
    exact this
   have ap:appOk out.length out.length ([writeL (stripsL G.1)]:List (List GRect)).length 1 24=true:=appOk_true (n:=1) (by omega) (by simp only[maxLen];omega)
   have s2:(sub ([writeL (stripsL G.1)]:List (List GRect)) 0 1)=[writeL (stripsL G.1)]:=rfl
   have q1:eqL ([G.1]:List (List GRect)).length 1=true:=rfl
   have q2:eqL 1 ([full[off]]:List GRect).length=true:=rfl
   have e3:off+1+(full'.length - (off+1))=full'.length:=by omega
   have hs:rg_Parts_s1 n ((off:Int),full,out)=some (.inl (((off+1:Nat):Int),full',out++[writeL (stripsL G.1)])):=by
    simp only[rg_Parts_s1,Int.toNat_natCast,c,c2,cond_true,at0,bind_some,sl,e1,eqL_self,q2,g3',sub_all,s1,q1,st1,w1,s2,ap,letv_eq,e3]
   rw[iter_inl hs]
   have hlen':full'.length - (off+1)=G.2.length:=by rw[← g2,List.length_drop]
   rw[ih full' (off+1) _ (by rw[g2];exact fun r hr=>hg3 r (.inr hr)) (by omega) (by omega) (by simp;omega) (by omega) k (by omega),hd,g2]
   simp only[partsF,hG,append_assoc,List.cons_append,nil_append]
  ·have hnil:full.drop off=[]:=List.drop_of_length_le (by omega)
   have c:decide ((((full.length - off:Nat):Nat):Int)>0)=false:=by simp;omega
   rw[hnil]
   refine iter_inr ?_
   simp only[rg_Parts_s1,Int.toNat_natCast,c,cond_false,eqL_self,cond_true,partsF,List.append_nil]
theorem rightL_ok {a:List GRect} (h:rightL a=true):(∀ r∈a,OkR r=true)∧a.length≤200:=by
 unfold rightL at h
 rw[and_eq_true,decide_eq_true_eq,decide_eq_true_eq]at h
 obtain⟨h1,h2⟩:=h
 unfold ofL at h1 h2
 split at h1
 ·rename_i hall
  rw[if_pos hall]at h2
  split at h1
  ·simp at h1
  ·rename_i h400
   rw[if_neg h400]at h2
   split at h1
   ·simp at h1
   ·rename_i h200
    rw[if_neg h200]at h2
    refine⟨all_eq_true.1 hall,?_⟩
    rw[← h2];show (writeL (stripsL a)).length≤200;omega
 ·simp at h1
theorem rg_Parts_eq {n:Nat} {a:List GRect} (ha:a.length < 1099511627776) (ha2:a.length < n) (hn:1000≤n):rg_Parts n a=some (partsL a):=by
 unfold rg_Parts partsL
 rw[rg_Right_eq ha ha2 hn,bind_some]
 cases hr:rightL a with
 |false=>rfl
 |true=>
  obtain⟨hv,h2⟩:=rightL_ok hr
  simp only[Bool.not_true,cond_false,cond_true,sl_Clone_Rect_eq (show a.length < 1099511627776 by omega),bind_some,Nat.zero_add,List.length_nil,eqL_self]
  have:=Parts_s1_run hn (a.length+1) a 0 [] (by simpa using hv) (by omega) h2 (by simp;omega) (by omega) n (by omega)
  rw[this]
  simp only[bind_some,nil_append,List.drop_zero,sub_all,eqL_self,cond_true]
end Go.Proofs
namespace Go.Proofs
open Go.Gb Go.RowKit
def numB (x:Int):Bool:=decide (1≤x)&&decide (x≤1073741824)
def ownB (x:Int):Bool:=decide (0≤x)&&decide (x≤1073741824)
theorem pc_number_eq (x:Int):pc_number x=some (numB x):=by unfold pc_number numB;cases decide (1≤x)<;>rfl
theorem pc_owner_eq (x:Int):pc_owner x=some (ownB x):=by unfold pc_owner ownB;cases decide (0≤x)<;>rfl
def ascL (l:List Int):Bool:=!((l.zip l.tail).any fun p=>decide (p.1≥p.2))
theorem findL_any {α:Type} (p:α→Bool) (l:List α):(match findL p l with |some _=>true |none=>false)=l.any p:=by
 have:=findL_isSome p l
 rw[← this]
 cases findL p l<;>rfl
theorem pc_ascending_eq {n:Nat} {l:List Int} (hl:l.length < 1099511627776) (hn:l.length < n):pc_ascending n l=some (ascL l):=by
 unfold pc_ascending ascL
 have hz:(l.zip l.tail).length=l.length - 1:=by rw[List.length_zip,List.length_tail];omega
 have:=iter_find (l:=l.zip l.tail) (step:=pc_ascending_s1 l) (fun i=>((i+1:Nat):Int)) (fun p=>decide (p.1≥p.2)) () (fun _=>false) (fun i hi=>?_) ?_ n (by omega)
 ·rw[show ((0+1:Nat):Int)=1 from rfl]at this
  rw[this,← findL_any]
  cases findL _ (l.zip l.tail)<;>rfl
 ·rw[hz]at hi
  have h1:i+1 < l.length:=by omega
  have c:decide (((i+1:Nat):Int) < (l.length:Int))=true:=by simp;omega
  have e:i64.wrap (((i+1:Nat):Int) - 1)=((i:Nat):Int):=by
   rw[show ((i+1:Nat):Int) - 1=((i:Nat):Int)by omega,wrap_nat (by omega)]
  have g:(l.zip l.tail)[i]=(l[i],l[i+1]):=by simp
  simp only[pc_ascending_s1,c,cond_true,e,at_get (show i < l.length by omega),at_get h1,bind_some,g]
  cases decide (l[i]≥l[i+1])with
  |true=>rfl
  |false=>simp only[cond_false];rw[wrap_succ (by omega)]
 ·have c:decide ((((l.zip l.tail).length+1:Nat):Int) < (l.length:Int))=false:=by rw[hz];simp;omega
  simp only[pc_ascending_s1,c,cond_false]
theorem sl_IndexFunc_int_eq {n:Nat} {l:List Int} {φ:(Int×Unit)→Option Bool} (p:Int→Bool) (h:∀ x∈l,φ (x,())=some (p x)) (hl:l.length < 1099511627776) (hn:l.length < n):sl_IndexFunc_int n l φ=some (idxL p l):=gsIndexFunc_run p h hl hn
theorem sl_IndexFunc_Rect_eq {n:Nat} {l:List GRect} {φ:(GRect×Unit)→Option Bool} (p:GRect→Bool) (h:∀ x∈l,φ (x,())=some (p x)) (hl:l.length < 1099511627776) (hn:l.length < n):sl_IndexFunc_Rect n l φ=some (idxL p l):=gsIndexFunc_run p h hl hn
theorem sl_ContainsFunc_int_eq {n:Nat} {l:List Int} {φ:(Int×Unit)→Option Bool} (p:Int→Bool) (h:∀ x∈l,φ (x,())=some (p x)) (hl:l.length < 1099511627776) (hn:l.length < n):sl_ContainsFunc_int n l φ=some (l.any p):=by
 unfold sl_ContainsFunc_int
 rw[sl_IndexFunc_int_eq p h hl hn,bind_some,idxL_ge]
theorem sl_ContainsFunc_Rect_eq {n:Nat} {l:List GRect} {φ:(GRect×Unit)→Option Bool} (p:GRect→Bool) (h:∀ x∈l,φ (x,())=some (p x)) (hl:l.length < 1099511627776) (hn:l.length < n):sl_ContainsFunc_Rect n l φ=some (l.any p):=by
 unfold sl_ContainsFunc_Rect
 rw[sl_IndexFunc_Rect_eq p h hl hn,bind_some,idxL_ge]
def validL (t:GLot):Bool:=numB t.id&&(ownB t.owner&&(ascL t.from_&&(!(t.from_.any fun x=>!numB x)&&((partsL t.area).length:Int)==1)))
theorem pc_valid_eq {n:Nat} {t:GLot} (h:LotOk t) (hn:1000≤n):pc_valid n t=some (validL t):=by
 unfold pc_valid validL
 have h1:=h.1
 have h2:=h.2
 rw[pc_number_eq,pc_owner_eq,pc_ascending_eq (by omega) (by omega),sl_ContainsFunc_int_eq (fun x=>!numB x) (fun x _=>by show pc_valid_f1 x=_;unfold pc_valid_f1;rw[pc_number_eq];rfl) (by omega) (by omega),rg_Parts_eq (by omega) (by omega) hn]
 simp only[bind_some]
 cases numB t.id<;>cases ownB t.owner<;>cases ascL t.from_<;>cases (t.from_.any fun x=>!numB x)<;>rfl
def meetR (p q:GRect):Bool:=decide (max p.x0 q.x0 < min p.x1 q.x1)&&decide (max p.y0 q.y0 < min p.y1 q.y1)
def meetL (a b:List GRect):Bool:=a.any fun p=>b.any fun q=>meetR p q
theorem pc_meet_eq {n:Nat} {a b:List GRect} (ha:a.length < 1099511627776) (hb:b.length < 1099511627776) (hna:a.length < n) (hnb:b.length < n):pc_meet n a b=some (meetL a b):=by
 unfold pc_meet meetL
 rw[sl_ContainsFunc_Rect_eq (fun p=>b.any fun q=>meetR p q) (fun p _=>?_) ha hna]
 ·rfl
 ·show pc_meet_f1 n p b=_
  unfold pc_meet_f1
  rw[sl_ContainsFunc_Rect_eq (fun q=>meetR p q) (fun q _=>?_) hb hnb]
  ·rfl
  ·show pc_meet_f1_f1 q p=_
   unfold pc_meet_f1_f1 meetR
   have e1:max q.x0 p.x0=max p.x0 q.x0:=by omega
   have e2:min q.x1 p.x1=min p.x1 q.x1:=by omega
   have e3:max q.y0 p.y0=max p.y0 q.y0:=by omega
   have e4:min q.y1 p.y1=min p.y1 q.y1:=by omega
   first
    |(cases decide (max p.x0 q.x0 < min p.x1 q.x1)<;>rfl)
    |(rw [e1,e2,e3,e4];cases decide (max p.x0 q.x0 < min p.x1 q.x1)<;>rfl)
theorem mlook_mput {V:Type} (k k':Int) (v:V) (l:List (Int×V)):mlook iEq k (mput iEq k' v l)=bif k==k' then some v else mlook iEq k l:=by
 induction l with
 |nil=>simp only[mput,mlook,iEq]
 |cons p r ih=>
  simp only[mput,mlook,iEq]
  cases h:k'==p.1 with
  |true=>
   have:=eq_of_beq h
   simp only[cond_true,mlook,iEq,← this]
   cases k==k'<;>rfl
  |false=>
   simp only[cond_false,mlook,iEq]at ih ⊢
   rw[ih]
   cases h2:k==p.1 with
   |true=>
    have h2:=eq_of_beq h2
    have:(k==k')=false:=by rw[beq_eq_false_iff_ne]at h ⊢;omega
    rw[this];rfl
   |false=>rfl
theorem keys_mput {V:Type} (k k':Int) (v:V) (l:List (Int×V)):k∈(mput iEq k' v l).map (·.1)↔k=k'∨k∈l.map (·.1):=by
 induction l with
 |nil=>simp[mput]
 |cons p r ih=>
  simp only[mput,iEq]
  cases h:k'==p.1 with
  |true=>
   have:=eq_of_beq h
   simp only[cond_true,map_cons,mem_cons,← this]
   constructor
   ·rintro (h |h)
    ·exact .inl h
    ·exact .inr (.inr h)
   ·rintro (h |h |h)
    ·exact .inl h
    ·exact .inl h
    ·exact .inr h
  |false=>
   simp only[cond_false,map_cons,mem_cons,ih]
   constructor
   ·rintro (h |h |h)
    ·exact .inr (.inl h)
    ·exact .inl h
    ·exact .inr (.inr h)
   ·rintro (h |h |h)
    ·exact .inr (.inl h)
    ·exact .inl h
    ·exact .inr (.inr h)
theorem keys_foldl_mput {V:Type} (v:V) (k:Int):∀ (xs:List Int) (l:List (Int×V)),k∈(xs.foldl (fun m x=>mput iEq x v m) l).map (·.1)↔k∈xs∨k∈l.map (·.1)
 |[],l=>by simp
 |x::xs,l=>by
  rw[List.foldl_cons,keys_foldl_mput v k xs,keys_mput,mem_cons]
  constructor
  ·rintro (h |h |h)
   ·exact .inl (.inr h)
   ·exact .inl (.inl h)
   ·exact .inr h
  ·rintro ((h |h) |h)
   ·exact .inr (.inl h)
   ·exact .inl h
   ·exact .inr (.inr h)
theorem loopL_guard {α S O:Type} (bad:α→Bool) (o:O) (g:α→S→S) (fin:S→O):∀ (l:List α) (s:S),
 loopL (fun x s=>bif bad x then .inr o else .inl (g x s)) fin l s=bif l.any bad then o else fin (l.foldl (fun s x=>g x s) s)
 |[],s=>rfl
 |x::xs,s=>by
  simp only[loopL,List.any_cons,List.foldl_cons]
  cases bad x with
  |true=>rfl
  |false=>simp only[cond_false,Bool.false_or];exact loopL_guard bad o g fin xs _
def prevs (land:List GLot):List (Option GLot×GLot):=(none::land.map some).zip land
def badAt (p:Option GLot×GLot):Bool:=!validL p.2 || p.1.any fun u=>decide (u.id≥p.2.id)
def landL (land:List GLot):Bool:=
 !((prevs land).any badAt)&&(!(land.any fun t=>t.from_.any fun k=>land.any fun u=>u.id==k)&&!(land.zipIdx.any fun p=>(land.take p.2).any fun u=>meetL p.1.area u.area))
theorem pc_Right_s2_run {n:Nat} {t:GLot} (h:LotOk t) (hn:1000≤n) (m:List (Int×Bool)):iter (pc_Right_s2 t) n ((0:Int),m)=some (t.from_.foldl (fun m x=>mput iEq x true m) m):=by
 have h2:=h.2
 have:=iter_fold (l:=t.from_) (step:=pc_Right_s2 t) (fun i (s:List (Int×Bool))=>(((i:Nat):Int),s)) (fun x m=>mput iEq x true m) (fun s=>s) (fun i hi s=>?_) (fun s=>by simp[pc_Right_s2]) n (by omega) m
 ·exact this
 ·have hi':decide (((i:Nat):Int) < (t.from_.length:Int))=true:=by simpa using hi
  simp only[pc_Right_s2,hi',cond_true,at_get hi,bind_some]
  rw[wrap_succ (by omega)]
theorem prevs_length (land:List GLot):(prevs land).length=land.length:=by simp[prevs,List.length_zip]
theorem prevs_get {land:List GLot} {i:Nat} (h:i < (prevs land).length):(prevs land)[i]=(if h0:i=0 then none else some (land[i - 1]'(by rw[prevs_length]at h;omega)),land[i]'(by rw[prevs_length]at h;exact h)):=by
 have hz:i < ((none::land.map some).zip land).length:=h
 have:((none::land.map some).zip land)[i]=(if h0:i=0 then none else some (land[i - 1]'(by rw[prevs_length]at h;omega)),land[i]'(by rw[prevs_length]at h;exact h)):=by
  rw[List.getElem_zip]
  cases i with
  |zero=>simp
  |succ i=>simp
 exact this
theorem pc_Right_s1_run {n:Nat} {land:List GLot} (hl:land.length≤100) (h:∀ t∈land,LotOk t) (hn:1000≤n):
 iter (pc_Right_s1 n land) n ((0:Int),([]:List (Int×Bool)),([]:List (Int×Bool)))=some (bif (prevs land).any badAt then .inr false else .inl (land.foldl (fun m t=>mput iEq t.id true m) [],land.foldl (fun m t=>t.from_.foldl (fun m x=>mput iEq x true m) m) [])):=by
 have hp:=prevs_length land
 have:=iter_listI (l:=prevs land) (step:=pc_Right_s1 n land) (S:=List (Int×Bool)×List (Int×Bool)) (fun i s=>(((i:Nat):Int),s.1,s.2))
  (fun p s=>bif badAt p then .inr (.inr false)else .inl (mput iEq p.2.id true s.1,p.2.from_.foldl (fun m x=>mput iEq x true m) s.2)) (fun s=> .inl s) (fun _ _=>True) (fun i hi s _=>⟨?_,fun _ _=>trivial⟩) (fun s _=>by simp[pc_Right_s1,hp]) n (by omega) ([],[]) trivial
 ·rw[show ((0:Nat):Int)=0 from rfl]at this
  rw[this,loopL_guard]
  have e:∀ (ps:List (Option GLot×GLot)) (s:List (Int×Bool)×List (Int×Bool)),ps.foldl (fun s p=>(mput iEq p.2.id true s.1,p.2.from_.foldl (fun m x=>mput iEq x true m) s.2)) s=((ps.map (·.2)).foldl (fun m t=>mput iEq t.id true m) s.1,(ps.map (·.2)).foldl (fun m t=>t.from_.foldl (fun m x=>mput iEq x true m) m) s.2):=by
   intro ps
   induction ps with
   |nil=>intro s;rfl
   |cons p ps ih=>intro s;simp only[List.foldl_cons,map_cons,ih]
  rw[e]
  have em:(prevs land).map (·.2)=land:=by
   unfold prevs
   rw[show (fun p:Option GLot×GLot=>p.2)=Prod.snd from rfl,List.map_snd_zip]
   simp
  rw[em]
 ·rw[prevs_get hi]
  rw[hp]at hi
  have hi':decide (((i:Nat):Int) < (land.length:Int))=true:=by simpa using hi
  have ht:=h _ (List.getElem_mem hi)
  have body:((pc_valid n land[i]).bind fun r1=>(bif (!r1)then some true else (bif (decide (((i:Nat):Int)>(0:Int)))then (at? land (i64.wrap (((i:Nat):Int) - 1))).bind fun x2=>some (decide (x2.id≥(land[i].id:Int)))else some false)):Option Bool)=some (badAt (if h0:i=0 then none else some (land[i - 1]'(by omega)),land[i])):=by
   rw[pc_valid_eq ht hn,bind_some]
   unfold badAt
   by_cases h0:i=0
   ·subst h0
    simp only[dif_pos]
    cases validL land[0]<;>rfl
   ·have c:decide (((i:Nat):Int)>0)=true:=by simp;omega
    have e:i64.wrap (((i:Nat):Int) - 1)=((i - 1:Nat):Int):=by
     rw[show ((i:Nat):Int) - 1=((i - 1:Nat):Int)by omega,wrap_nat (by omega)]
    simp only[dif_neg h0,c,cond_true,e,at_get (show i - 1 < land.length by omega),bind_some]
    cases validL land[i]<;>rfl
  simp only[pc_Right_s1,hi',cond_true,at_get hi,bind_some]
  rw[body,bind_some]
  cases badAt (if h0:i=0 then none else some (land[i - 1]'(by omega)),land[i])with
  |true=>rfl
  |false=>
   simp only[cond_false]
   rw[pc_Right_s2_run ht hn,bind_some,wrap_succ (by omega)]
theorem pc_Right_r3_run (w:List (Int×Bool)):∀ ks:List Int,foldR (pc_Right_r3 w) ks ()=some (bif ks.any (fun k=>(mlook iEq k w).getD false)then .inr false else .inl ())
 |[]=>rfl
 |k::ks=>by
  have ih:=pc_Right_r3_run w ks
  simp only[foldR,pc_Right_r3,List.any_cons]
  cases (mlook iEq k w).getD false with
  |true=>rfl
  |false=>simpa using ih
theorem ids_look (land:List GLot) (k:Int):(mlook iEq k (land.foldl (fun m t=>mput iEq t.id true m) [])).getD false=land.any fun u=>u.id==k:=by
 have gen:∀ (l:List GLot) (m:List (Int×Bool)),(mlook iEq k (l.foldl (fun m t=>mput iEq t.id true m) m)).getD false=((l.any fun u=>u.id==k) || (mlook iEq k m).getD false):=by
  intro l
  induction l with
  |nil=>intro m;rfl
  |cons t l ih=>
   intro m
   rw[List.foldl_cons,ih,mlook_mput,List.any_cons,show (k==t.id)=(t.id==k)by rw[Bool.eq_iff_iff,beq_iff_eq,beq_iff_eq];exact⟨Eq.symm,Eq.symm⟩]
   cases t.id==k<;>cases (l.any fun u=>u.id==k)<;>rfl
 rw[gen]
 simp[mlook]
theorem olds_mem (land:List GLot) (k:Int):k∈(land.foldl (fun m t=>t.from_.foldl (fun m x=>mput iEq x true m) m) ([]:List (Int×Bool))).map (·.1)↔∃ t∈land,k∈t.from_:=by
 have gen:∀ (l:List GLot) (m:List (Int×Bool)),k∈(l.foldl (fun m t=>t.from_.foldl (fun m x=>mput iEq x true m) m) m).map (·.1)↔(∃ t∈l,k∈t.from_)∨k∈m.map (·.1):=by
  intro l
  induction l with
  |nil=>intro m;simp
  |cons t l ih=>
   intro m
   rw[List.foldl_cons,ih,keys_foldl_mput]
   constructor
   ·rintro (⟨u,hu,hk⟩ |h |h)
    ·exact .inl ⟨u,List.mem_cons_of_mem _ hu,hk⟩
    ·exact .inl ⟨t,List.mem_cons_self,h⟩
    ·exact .inr h
   ·rintro (⟨u,hu,hk⟩ |h)
    ·rcases mem_cons.1 hu with rfl |hu
     ·exact .inr (.inl hk)
     ·exact .inl ⟨u,hu,hk⟩
    ·exact .inr (.inr h)
 rw[gen]
 simp
theorem pc_Right_s4_run {n:Nat} {land:List GLot} (hl:land.length≤100) (h:∀ t∈land,LotOk t) (hn:1000≤n):
 thenB (iter (pc_Right_s4 n land) n (0:Int)) (fun ()=>some true)=some (!(land.zipIdx.any fun p=>(land.take p.2).any fun u=>meetL p.1.area u.area)):=by
 have hz:land.zipIdx.length=land.length:=List.length_zipIdx
 have:=iter_find (l:=land.zipIdx) (step:=pc_Right_s4 n land) (fun i=>((i:Nat):Int)) (fun p=>(land.take p.2).any fun u=>meetL p.1.area u.area) () (fun _=>false) (fun i hi=>?_) ?_ n (by omega)
 ·rw[show ((0:Nat):Int)=0 from rfl]at this
  rw[this,← findL_any]
  cases findL _ land.zipIdx<;>rfl
 ·have g:land.zipIdx[i]=(land[i]'(by omega),i):=by simp
  rw[g]
  rw[hz]at hi
  have c:decide (((i:Nat):Int) < (land.length:Int))=true:=by simpa using hi
  have hlt:(land.take i).length=i:=by rw[length_take];omega
  have inner:=iter_find (l:=land.take i) (step:=pc_Right_s5 n land ((i:Nat):Int)) (fun k=>((k:Nat):Int)) (fun u=>meetL land[i].area u.area) () (fun _=>(.inr (.inr false):Int ⊕ (Unit ⊕ Bool))) (fun k hk=>?_) ?_ n (by omega)
  ·rw[show ((0:Nat):Int)=0 from rfl]at inner
   simp only[pc_Right_s4,c,cond_true,inner]
   rw[← findL_any]
   cases findL (fun u=>meetL land[i].area u.area) (land.take i)with
   |some k=>rfl
   |none=>simp only[thenB_inl,cond_false];rw[wrap_succ (by omega)]
  ·rw[hlt]at hk
   have c2:decide (((k:Nat):Int) < ((i:Nat):Int))=true:=by simpa using hk
   have hkl:k < land.length:=by omega
   have a1:=(h _ (List.getElem_mem hi)).1
   have a2:=(h _ (List.getElem_mem hkl)).1
   simp only[pc_Right_s5,c2,cond_true,at_get hi,at_get hkl,bind_some,List.getElem_take,pc_meet_eq (n:=n) (show land[i].area.length < 1099511627776 by omega) (show land[k].area.length < 1099511627776 by omega) (by omega) (by omega)]
   cases meetL land[i].area land[k].area with
   |true=>rfl
   |false=>simp only[cond_false];rw[wrap_succ (by omega)]
  ·rw[hlt];simp[pc_Right_s5]
 ·rw[hz];simp[pc_Right_s4]
theorem pc_Right_eq {n:Nat} {land:List GLot} (hl:land.length≤100) (h:∀ t∈land,LotOk t) (hn:1000≤n):pc_Right n land=some (landL land):=by
 unfold pc_Right landL
 have c:decide (((land.length:Nat):Int)>20000)=false:=by simp;omega
 rw[c,cond_false,pc_Right_s1_run hl h hn,pc_Right_s4_run hl h hn]
 cases (prevs land).any badAt with
 |true=>rfl
 |false=>
  simp only[cond_false,thenB_inl]
  rw[allEq_const,permAll_of (o:=bif (land.any fun t=>t.from_.any fun k=>land.any fun u=>u.id==k)then .inr false else .inl ()) (fun ks hks=>?_)]
  ·cases (land.any fun t=>t.from_.any fun k=>land.any fun u=>u.id==k)<;>rfl
  ·rw[pc_Right_r3_run]
   have:ks.any (fun k=>(mlook iEq k (land.foldl (fun m t=>mput iEq t.id true m) [])).getD false)=land.any fun t=>t.from_.any fun k=>land.any fun u=>u.id==k:=by
    rw[Bool.eq_iff_iff]
    simp only[List.any_eq_true,ids_look]
    constructor
    ·rintro⟨k,hk,hu⟩
     obtain⟨t,ht,hkt⟩:=(olds_mem land k).1 (hks.mem_iff.2 hk)
     exact⟨t,ht,k,hkt,hu⟩
    ·rintro⟨t,ht,k,hkt,hu⟩
     exact⟨k,hks.mem_iff.1 ((olds_mem land k).2 ⟨t,ht,hkt⟩),hu⟩
   rw[this]
end Go.Proofs
namespace Go.Proofs
open Go.Gb Go.RowKit
end Go.Proofs
namespace Go.Proofs
open Go.Gb Go.RowKit
abbrev ltT (a b:GLot):Bool:=decide (a.id < b.id)
theorem swo_ltT:Go.Sort.SWO ltT where
 irrefl x:=by simp[ltT]
 trans x y z h1 h2:=by simp only[ltT,decide_eq_true_eq]at *;omega
 ntrans x y z h1 h2:=by simp only[ltT,decide_eq_false_iff_not]at *;omega
instance:Inhabited GLot:=⟨noLot⟩
theorem pdqb_Lot (n:Nat) (rc:List GLot→Int→Int→Int→((GLot×GLot×Unit)→Option Int)→Option (List GLot)) (φ:(GLot×GLot×Unit)→Option Int) (l:List GLot) (a b d:Int):sl_pdqsortCmpFunc_Lot_b n rc l a b d φ=gPdqsort_b (fun x y=>φ (x,y,())) (fun r=>decide (r < 0)) sl_nextPowerOfTwo sl_xorshift_Next n (fun l a b d=>rc l a b d φ) l a b d:=by kernel_rfl
theorem pdqm_Lot (n:Nat) (φ:(GLot×GLot×Unit)→Option Int):∀ m l a b d,sl_pdqsortCmpFunc_Lot_m n m l a b d φ=gPdqsort_m (fun x y=>φ (x,y,())) (fun r=>decide (r < 0)) sl_nextPowerOfTwo sl_xorshift_Next n m l a b d
 | 0,l,a,b,d=>rfl
 |m+1,l,a,b,d=>by
  have e:(fun l a b d=>sl_pdqsortCmpFunc_Lot_m n m l a b d φ)=gPdqsort_m (fun x y=>φ (x,y,())) (fun r=>decide (r < 0)) sl_nextPowerOfTwo sl_xorshift_Next n m:=by
   funext l a b d
   exact pdqm_Lot n φ m l a b d
  show sl_pdqsortCmpFunc_Lot_b n (sl_pdqsortCmpFunc_Lot_m n m) l a b d φ=gPdqsort_b (fun x y=>φ (x,y,())) (fun r=>decide (r < 0)) sl_nextPowerOfTwo sl_xorshift_Next n (gPdqsort_m (fun x y=>φ (x,y,())) (fun r=>decide (r < 0)) sl_nextPowerOfTwo sl_xorshift_Next n m) l a b d
  rw[← e]
  exact pdqb_Lot n (sl_pdqsortCmpFunc_Lot_m n m) φ l a b d
theorem sl_SortFunc_Lot_eq {n:Nat} {l:List GLot} {φ:(GLot×GLot×Unit)→Option Int} (f:GLot→GLot→Int) (hφ:∀ x y,φ (x,y,())=some (f x y)) (hf:∀ x y,decide (f x y < 0)=ltT x y) (hl:l.length < 1099511627776) (hn:l.length < n):sl_SortFunc_Lot n l φ=some (sortG ltT l):=by
 unfold sl_SortFunc_Lot sl_pdqsortCmpFunc_Lot
 rw[wrap_u64n (by omega),bits_Len_eq (by omega)]
 simp only[bind_some,eqL_self,cond_true,pdqm_Lot]
 rw[gPdqsort_sorts (lt:=ltT) swo_ltT (f:=f) (q:=fun r=>decide (r < 0)) hφ hf nptOk xshOk (by omega) hn hn]
 rfl
def takenL (land:List GLot) (k:Int):Bool:=land.any fun t=>t.id==k || t.from_.any fun x=>k==x
theorem sl_IndexFunc_Lot_eq {n:Nat} {l:List GLot} {φ:(GLot×Unit)→Option Bool} (p:GLot→Bool) (h:∀ x∈l,φ (x,())=some (p x)) (hl:l.length < 1099511627776) (hn:l.length < n):sl_IndexFunc_Lot n l φ=some (idxL p l):=gsIndexFunc_run p h hl hn
theorem pc_taken_eq {n:Nat} {land:List GLot} {k:Int} (h:∀ t∈land,LotOk t) (hl:land.length < 1099511627776) (hn:land.length < n) (hn1:1000≤n):pc_taken n land k=some (takenL land k):=by
 unfold pc_taken sl_ContainsFunc_Lot
 have:sl_IndexFunc_Lot n land (fun (y1:GLot×Unit)=>pc_taken_f1 n y1.1 k)=some (idxL (fun t:GLot=>t.id==k || t.from_.any fun x=>k==x) land):=by
  refine sl_IndexFunc_Lot_eq (fun t:GLot=>t.id==k || t.from_.any fun x=>k==x) (fun t ht=>?_) hl hn
  have h2:=(h t ht).2
  show pc_taken_f1 n t k=_
  unfold pc_taken_f1
  rw[sl_Contains_int_eq (by omega) (by omega)]
  cases t.id==k<;>rfl
 rw[this]
 simp only[bind_some,idxL_ge,takenL]
theorem pc_connected_eq {n:Nat} {a:List GRect} (ha:a.length < 1099511627776) (ha2:a.length < n) (hn:1000≤n):pc_connected n a=some (((partsL a).length:Int)==1):=by
 unfold pc_connected
 rw[rg_Parts_eq ha ha2 hn];rfl
def lineL (l:List GLot):List Int:=setL (l.flatMap fun t=>t.id::t.from_)
theorem lens_flat (l:List GLot) (h:∀ t∈l,LotOk t):(l.flatMap fun t=>t.id::t.from_).length≤901*l.length:=by
 induction l with
 |nil=>simp
 |cons t l ih=>
  have:=ih fun u hu=>h u (by simp[hu])
  have:=(h t (by simp)).2
  simp only[List.flatMap_cons,length_append,List.length_cons]
  omega
theorem pc_line_eq {n:Nat} {l:List GLot} (h:∀ t∈l,LotOk t) (hl:l.length < 1000000) (hn:901*l.length < n):pc_line n l=some (lineL l):=by
 have hf:=lens_flat l h
 unfold pc_line
 have run:iter (pc_line_s1 l) n ((0:Int),([]:List Int))=some (l.flatMap fun t=>t.id::t.from_):=by
  have:=iter_to (step:=pc_line_s1 l) (fun i=>(((i:Nat):Int),(l.take i).flatMap fun t=>t.id::t.from_)) l.length (l.flatMap fun t=>t.id::t.from_) (fun i hi=>?_) ?_ n (by omega)
  ·simpa using this
  ·have hi':decide (((i:Nat):Int) < (l.length:Int))=true:=by simpa using hi
   have lt:=lens_flat (l.take i) fun t ht=>h t (List.mem_of_mem_take ht)
   rw[length_take]at lt
   have h2:=(h l[i] (List.getElem_mem hi)).2
   have a1:appOk ((l.take i).flatMap fun t=>t.id::t.from_).length ((l.take i).flatMap fun t=>t.id::t.from_).length (sub ([l[i].id]:List Int) 0 1).length 1 8=true:=appOk_true (n:=1) (by omega) (by simp only[maxLen];omega)
   have s1:(sub ([l[i].id]:List Int) 0 1)=[l[i].id]:=rfl
   have a2:appOk (((l.take i).flatMap fun t=>t.id::t.from_)++[l[i].id]).length (((l.take i).flatMap fun t=>t.id::t.from_)++[l[i].id]).length l[i].from_.length l[i].from_.length 8=true:=by
    refine appOk_true ?_ ?_
    ·rw[length_append,List.length_singleton];omega
    ·rw[length_append,List.length_singleton];simp only[maxLen];omega
   rw[s1]at a1
   simp only[pc_line_s1,hi',cond_true,at_get hi,bind_some,s1,a1,letv_eq,a2,eqL_self]
   rw[wrap_succ (by omega),List.take_succ_eq_append_getElem hi,List.flatMap_append]
   simp
  ·simp[pc_line_s1]
 simp only[List.length_nil,eqL_self,cond_true,run,bind_some]
 rw[sl_Sort_int_eq (by omega) (by omega)]
 simp only[bind_some,length_isort,eqL_self,cond_true]
 rw[sl_Compact_int_eq (by rw[length_isort];omega) (by rw[length_isort];omega)]
 simp only[bind_some,sub_all,eqL_self,cond_true]
 rfl
def replaceL (land:List GLot) (old:List Int) (lots:List GLot):List GLot:=sortG ltT ((land.filter fun t=>!(old.any fun x=>t.id==x))++lots)
theorem pc_clone_eq' {t:GLot} (h1:t.area.length < 1099511627776) (h2:t.from_.length < 1099511627776):pc_clone t=some t:=by
 unfold pc_clone
 rw[sl_Clone_Rect_eq h1,bind_some,sl_Clone_int_eq h2,bind_some]
 simp only[sub_all,eqL_self,cond_true]
theorem pc_replace_eq {n:Nat} {land:List GLot} {old:List Int} {lots:List GLot} (h:∀ t∈land,LotOk t) (hl:land.length≤100) (ho:old.length≤100) (h2:∀ t∈lots,t.area.length≤900∧t.from_.length≤10000) (hl2:lots.length≤100) (hn:1000≤n):
 pc_replace n land old lots=some (replaceL land old lots,0):=by
 unfold pc_replace
 have run1:iter (pc_replace_s1 n land old) n ((0:Int),([]:List GLot))=some (land.filter fun t=>!(old.any fun x=>t.id==x)):=by
  have:=iter_to (step:=pc_replace_s1 n land old) (fun i=>(((i:Nat):Int),(land.take i).filter fun t=>!(old.any fun x=>t.id==x))) land.length (land.filter fun t=>!(old.any fun x=>t.id==x)) (fun i hi=>?_) ?_ n (by omega)
  ·simpa using this
  ·have hi':decide (((i:Nat):Int) < (land.length:Int))=true:=by simpa using hi
   have lt:=List.length_filter_le (fun t:GLot=>!(old.any fun x=>t.id==x)) (land.take i)
   rw[length_take]at lt
   have a1:appOk ((land.take i).filter fun t=>!(old.any fun x=>t.id==x)).length ((land.take i).filter fun t=>!(old.any fun x=>t.id==x)).length (sub ([land[i]]:List GLot) 0 1).length 1 64=true:=appOk_true (n:=1) (by omega) (by simp only[maxLen];omega)
   have s1:(sub ([land[i]]:List GLot) 0 1)=[land[i]]:=rfl
   rw[s1]at a1
   have tk:(land.take (i+1)).filter (fun t=>!(old.any fun x=>t.id==x))=((land.take i).filter fun t=>!(old.any fun x=>t.id==x))++(bif !(old.any fun x=>land[i].id==x)then [land[i]]else []):=by
    rw[List.take_succ_eq_append_getElem hi,List.filter_append]
    cases hb:(old.any fun x=>land[i].id==x)<;>simp[hb]
   simp only[pc_replace_s1,hi',cond_true,at_get hi,bind_some,sl_Contains_int_eq (n:=n) (l:=old) (a:=land[i].id) (by omega) (by omega),pc_clone_eq (h _ (List.getElem_mem hi)),s1,a1,letv_eq,eqL_self]
   rw[tk,wrap_succ (by omega)]
   cases (old.any fun x=>land[i].id==x)with
   |true=>simp
   |false=>simp
  ·simp[pc_replace_s1]
 have lf:=List.length_filter_le (fun t:GLot=>!(old.any fun x=>t.id==x)) land
 have run2:∀ base:List GLot,base.length≤100→iter (pc_replace_s2 lots) n ((0:Int),base)=some (base++lots):=by
  intro base hb
  have:=iter_to (step:=pc_replace_s2 lots) (fun i=>(((i:Nat):Int),base++lots.take i)) lots.length (base++lots) (fun i hi=>?_) ?_ n (by omega)
  ·simpa using this
  ·have hi':decide (((i:Nat):Int) < (lots.length:Int))=true:=by simpa using hi
   have hh:=h2 _ (List.getElem_mem hi)
   have s1:(sub ([lots[i]]:List GLot) 0 1)=[lots[i]]:=rfl
   have a1:appOk (base++lots.take i).length (base++lots.take i).length ([lots[i]]:List GLot).length 1 64=true:=by
    refine appOk_true (n:=1) ?_ ?_
    ·rw[length_append,length_take];omega
    ·rw[length_append,length_take];simp only[maxLen];omega
   simp only[pc_replace_s2,hi',cond_true,at_get hi,bind_some,pc_clone_eq' (t:=lots[i]) (by omega) (by omega),s1,a1,letv_eq,eqL_self]
   rw[wrap_succ (by omega),List.take_succ_eq_append_getElem hi,append_assoc]
  ·simp[pc_replace_s2]
 have ll:((land.filter fun t=>!(old.any fun x=>t.id==x))++lots).length≤200:=by rw[length_append];omega
 simp only[List.length_nil,eqL_self,cond_true,run1,bind_some,run2 _ (show (land.filter fun t=>!(old.any fun x=>t.id==x)).length≤100 by omega)]
 rw[sl_SortFunc_Lot_eq (fun a b=>if a.id < b.id then -1 else if b.id < a.id then 1 else 0) (fun a b=>by show pc_replace_f1 a b=_;unfold pc_replace_f1;rw[cmp_Compare_int_eq];rfl) (fun a b=>by
  by_cases h1:a.id < b.id
  ·simp[h1]
  ·by_cases h2:b.id < a.id<;>simp[h1,h2]) (by omega) (by omega)]
 have lg:(sortG ltT ((land.filter fun t=>!(old.any fun x=>t.id==x))++lots)).length=((land.filter fun t=>!(old.any fun x=>t.id==x))++lots).length:=length_sortG swo_ltT _
 simp only[bind_some]
 rw[show sub (sortG ltT ((land.filter fun t=>!(old.any fun x=>t.id==x))++lots)) 0 ((land.filter fun t=>!(old.any fun x=>t.id==x))++lots).length=replaceL land old lots by rw[← lg,sub_all];rfl]
 rw[eqLT (show (replaceL land old lots).length=_ from lg)]
 rfl
theorem find_mem {land:List GLot} {id:Int} (h:(findLot land id).2=true):(findLot land id).1∈land∧(findLot land id).1.id=id:=by
 unfold findLot at*
 cases hf:land.find? fun t=>t.id==id with
 |none=>rw[hf]at h;cases h
 |some u=>
  have e:=List.find?_some hf
  exact⟨List.mem_of_find?_eq_some hf,eq_of_beq e⟩
theorem replaceL_mem {land:List GLot} {old:List Int} {lots:List GLot} {t:GLot}:t∈replaceL land old lots↔(t∈land∧∀ x∈old,t.id≠x)∨t∈lots:=by
 unfold replaceL
 rw[(sortG_perm swo_ltT _).mem_iff,mem_append,List.mem_filter]
 simp
theorem replaceL_len (land:List GLot) (old:List Int) (lots:List GLot):(replaceL land old lots).length≤land.length+lots.length:=by
 unfold replaceL
 rw[length_sortG swo_ltT,length_append]
 have:=List.length_filter_le (fun t:GLot=>!(old.any fun x=>t.id==x)) land
 omega
theorem valid_of_right {land:List GLot} (h:landL land=true) {t:GLot} (ht:t∈land):validL t=true:=by
 unfold landL at h
 rw[and_eq_true]at h
 have h1:(prevs land).any badAt=false:=by simpa using h.1
 obtain⟨i,hi,rfl⟩:=List.mem_iff_getElem.1 ht
 have hm:(prevs land)[i]'(by rw[prevs_length];exact hi)∈prevs land:=List.getElem_mem _
 rw[prevs_get]at hm
 have:=List.any_eq_false.1 h1 _ hm
 simp only[badAt,Bool.or_eq_true,not_or]at this
 simpa using this.1
end Go.Proofs
namespace Go.Proofs
open Go.Gb Go.RowKit
def hasR (r:GRect) (x y:Int):Bool:=(decide (r.x0≤x)&&decide (x < r.x1))&&(decide (r.y0≤y)&&decide (y < r.y1))
end Go.Proofs
namespace Go.Proofs
open Go.Gb Go.RowKit
theorem meetL_cells (a b:List GRect):meetL a b=true↔∃ x y,cellsL a x y=true∧cellsL b x y=true:=by
 have h:∀ (l:List GRect) (x y:Int),cellsL l x y=true↔∃ r∈l,(r.x0≤x∧x < r.x1)∧(r.y0≤y∧y < r.y1):=fun l x y=>by simp[cellsL,and_assoc]
 unfold meetL
 simp only[List.any_eq_true,h]
 constructor
 ·rintro⟨p,hp,q,hq,hm⟩
  simp only[meetR,and_eq_true,decide_eq_true_eq]at hm
  exact⟨max p.x0 q.x0,max p.y0 q.y0,⟨p,hp,by omega⟩,⟨q,hq,by omega⟩⟩
 ·rintro⟨x,y,⟨p,hp,h1⟩,⟨q,hq,h2⟩⟩
  refine⟨p,hp,q,hq,?_⟩
  simp only[meetR,and_eq_true,decide_eq_true_eq]
  omega
def ApartC (a b:List GRect):Prop:=∀ x y,cellsL a x y=true→cellsL b x y=true→False
theorem ApartC.symm {a b:List GRect} (h:ApartC a b):ApartC b a:=fun x y h1 h2=>h x y h2 h1
structure IsLand (land:List GLot):Prop where
 asc:land.Pairwise fun a b=>a.id < b.id
 val:∀ t∈land,validL t=true
 old:∀ t∈land,∀ u∈land,u.id∉t.from_
 apart:land.Pairwise fun a b=>ApartC a.area b.area
theorem taken_true {land:List GLot} {k:Int}:takenL land k=true↔∃ t∈land,t.id=k∨k∈t.from_:=by
 unfold takenL
 simp only[List.any_eq_true,Bool.or_eq_true,beq_iff_eq]
 constructor
 ·rintro⟨t,ht,h |⟨x,hx,rfl⟩⟩
  ·exact⟨t,ht,.inl h⟩
  ·exact⟨t,ht,.inr hx⟩
 ·rintro⟨t,ht,h |h⟩
  ·exact⟨t,ht,.inl h⟩
  ·exact⟨t,ht,.inr ⟨k,h,rfl⟩⟩
def RightAreas (land:List GLot):Prop:=∀ t∈land,rightL t.area=true
theorem validL_right {t:GLot} (h:validL t=true):rightL t.area=true:=by
 unfold validL at h
 simp only[and_eq_true]at h
 have h1:=h.2.2.2.2
 unfold partsL at h1
 cases hr:rightL t.area with
 |true=>rfl
 |false=>rw[hr]at h1;simp at h1
theorem IsLand.areas {land:List GLot} (h:IsLand land):RightAreas land:=fun t ht=>validL_right (h.val t ht)
def Used (U:List Int) (land:List GLot):Prop:=∀ t∈land,t.id∈U∧∀ x∈t.from_,x∈U
theorem nodup_len:∀ {l m:List Int},l.Pairwise (· < ·)→(∀ x∈l,x∈m)→l.length≤m.length
 |[],_,_,_=>by simp
 |x::l,m,h,hm=>by
  rw[List.pairwise_cons]at h
  have hx:=hm x List.mem_cons_self
  have:=nodup_len (l:=l) (m:=m.erase x) h.2 fun z hz=>by
   have:=h.1 z hz
   exact (List.mem_erase_of_ne (by omega)).2 (hm z (List.mem_cons_of_mem _ hz))
  rw[List.length_erase_of_mem hx]at this
  have:=List.length_pos_of_mem hx
  simp only[List.length_cons]
  omega
theorem ascL_iff (l:List Int):ascL l=true↔l.Pairwise (· < ·):=by
 unfold ascL
 rw[Bool.not_eq_true',List.any_eq_false]
 induction l with
 |nil=>simp
 |cons a l ih=>
  cases l with
  |nil=>simp
  |cons b l=>
   simp only[List.tail_cons,List.zip_cons_cons,mem_cons,forall_eq_or_imp]at ih ⊢
   rw[List.pairwise_cons]
   constructor
   ·rintro⟨h1,h2⟩
    have hp:=ih.1 h2
    refine⟨fun z hz=>?_,hp⟩
    simp only[decide_eq_true_eq]at h1
    rcases mem_cons.1 hz with rfl |hz
    ·omega
    ·have:=(List.pairwise_cons.1 hp).1 z hz
     omega
   ·rintro⟨h1,h2⟩
    refine⟨?_,ih.2 h2⟩
    have:=h1 b List.mem_cons_self
    simp;omega
theorem validL_from {t:GLot} (h:validL t=true):t.from_.Pairwise (· < ·)∧∀ x∈t.from_,numB x=true:=by
 unfold validL at h
 simp only[and_eq_true,Bool.not_eq_true',List.any_eq_false]at h
 refine⟨(ascL_iff _).1 h.2.2.1,fun x hx=>?_⟩
 have:=h.2.2.2.1 x hx
 simpa using this
theorem used_len {U:List Int} {land:List GLot} (hu:Used U land) (h:IsLand land) {t:GLot} (ht:t∈land):t.from_.length≤U.length:=
 nodup_len (validL_from (h.val t ht)).1 (hu t ht).2
end Go.Proofs
namespace Go.Proofs
open Go.Gb Go.RowKit
def connB (a:List GRect):Bool:=((partsL a).length:Int)==1
def addL (land:List GLot) (lot:GLot):List GLot×Int:=
 bif !landL land || (!validL lot || decide (lot.from_≠[]))then ([],1)else
 bif takenL land lot.id then ([],5)else
 bif land.any fun t=>meetL t.area lot.area then ([],11)else
 (replaceL land [] [lot],0)
theorem gtz {α:Type} (l:List α):decide (((l.length:Nat):Int)>0)=decide (l≠[]):=by cases l<;>simp<;>omega
theorem sl_ContainsFunc_Lot_eq {n:Nat} {l:List GLot} {φ:(GLot×Unit)→Option Bool} (p:GLot→Bool) (h:∀ x∈l,φ (x,())=some (p x)) (hl:l.length < 1099511627776) (hn:l.length < n):sl_ContainsFunc_Lot n l φ=some (l.any p):=by
 unfold sl_ContainsFunc_Lot
 rw[sl_IndexFunc_Lot_eq p h hl hn,← findL_any]
 simp only[bind_some,idxL]
 cases findL p l<;>simp<;>omega
theorem pc_Add_eq {n:Nat} {land:List GLot} {lot:GLot} (h:∀ t∈land,LotOk t) (hl:land.length≤99) (hk:LotOk lot) (hn:1000≤n):pc_Add n land lot=some (addL land lot):=by
 unfold pc_Add addL
 rw[pc_Right_eq (by omega) h hn]
 simp only[bind_some]
 cases landL land with
 |false=>rfl
 |true=>
 rw[pc_valid_eq hk hn]
 simp only[Bool.not_true,cond_false,Bool.false_or,bind_some,gtz]
 cases validL lot with
 |false=>rfl
 |true=>
 simp only[Bool.not_true,cond_false,Bool.false_or,bind_some]
 cases decide (lot.from_≠[])with
 |true=>rfl
 |false=>
 rw[pc_taken_eq h (by omega) (by omega) hn]
 simp only[cond_false,bind_some]
 cases takenL land lot.id with
 |true=>rfl
 |false=>
 have d2:decide ((land.length:Int)≥20000)=false:=by simp;omega
 have s3:(sub ([lot]:List GLot) 0 1)=[lot]:=rfl
 have q3:eqL ([lot]:List GLot).length 1=true:=rfl
 have rp:=pc_replace_eq (n:=n) (land:=land) (old:=[]) (lots:=[lot]) h (by omega) (by simp) (fun t ht=>by
  have:t=lot:=by simpa using ht
  subst this
  exact⟨hk.1,by have:=hk.2;omega⟩) (by simp) hn
 rw[sl_ContainsFunc_Lot_eq (fun t=>meetL t.area lot.area) (fun t ht=>by
  show pc_Add_f1 n t lot=_
  unfold pc_Add_f1
  have:=h t ht
  have h1:=this.1
  have h2:=hk.1
  rw[pc_meet_eq (by omega) (by omega) (by omega) (by omega)];rfl) (by omega) (by omega)]
 simp only[cond_false,bind_some,d2,s3,q3,cond_true,rp,sub_all,eqL_self]
 cases land.any fun t=>meetL t.area lot.area<;>rfl
def splitT (land:List GLot) (id a b:Int) (T:GLot) (I O:List GRect×Int):List GLot×Int:=
 bif (I.2==0&&decide (I.1=[])) || (O.2==0&&decide (O.1=[]))then ([],10)else
 bif I.2 != 0 || O.2 != 0 then ([],6)else
 bif !connB I.1 || !connB O.1 then ([],12)else
 (replaceL land [id] [GLot.mk a T.owner I.1 (lineL [T]),GLot.mk b T.owner O.1 (lineL [T])],0)
def splitL (land:List GLot) (id:Int) (cut:List GRect) (a b:Int):List GLot×Int:=
 bif !landL land || (!rightL cut || (!numB a || (!numB b || a==b)))then ([],1)else
 bif !(findLot land id).2 then ([],4)else
 bif takenL land a || takenL land b then ([],5)else
 splitT land id a b (findLot land id).1 (combineL (fun p q=>p&&q) (findLot land id).1.area cut) (combineL (fun p q=>p&&!q) (findLot land id).1.area cut)
theorem pc_Split_full {n:Nat} {land:List GLot} {id a b:Int} {cut:List GRect} (h:∀ t∈land,LotOk t) (hl:land.length≤99) (hc:cut.length≤900) (hn:1000≤n):
 pc_Split n land id cut a b=some (splitL land id cut a b):=by
 have hfo:=findLot_ok h id
 unfold pc_Split splitL
 rw[pc_Right_eq (by omega) h hn,rg_Right_eq (by omega) (by omega) hn,pc_number_eq,pc_number_eq]
 simp only[bind_some]
 cases hr:landL land with
 |false=>rfl
 |true=>
 cases hcr:rightL cut with
 |false=>rfl
 |true=>
 cases numB a with
 |false=>rfl
 |true=>
 cases numB b with
 |false=>rfl
 |true=>
 cases hab:a==b with
 |true=>rfl
 |false=>
 rw[pc_Find_eq h (by omega) (by omega)]
 simp only[Bool.not_true,cond_false,bind_some,Bool.false_or]
 cases hf:(findLot land id).2 with
 |false=>rfl
 |true=>
 rw[pc_taken_eq h (by omega) (by omega) hn,pc_taken_eq h (by omega) (by omega) hn]
 simp only[Bool.not_true,cond_false,bind_some]
 cases hta:takenL land a with
 |true=>rfl
 |false=>
 cases htb:takenL land b with
 |true=>rfl
 |false=>
 generalize hT:(findLot land id).1=T at*
 rw[rg_Common_eq (by omega) (by omega) (by omega) (by omega) hn,rg_Minus_eq (by omega) (by omega) (by omega) (by omega) hn]
 have li:=combineL_len (keep:=fun p q=>p&&q) T.area cut
 have lo:=combineL_len (keep:=fun p q=>p&&!q) T.area cut
 simp only[bind_some,cond_false,Bool.false_or]
 generalize hI:combineL (fun p q=>p&&q) T.area cut=I at*
 generalize hO:combineL (fun p q=>p&&!q) T.area cut=O at*
 have z:∀ l:List GRect,(((l.length:Int))==0)=decide (l=[]):=fun l=>by cases l<;>simp<;>omega
 have d2:decide ((land.length:Int)≥20000)=false:=by simp;omega
 rw[z,z,d2,pc_connected_eq (by omega) (by omega) hn,pc_connected_eq (by omega) (by omega) hn]
 unfold splitT connB
 have s1:(sub ([T]:List GLot) 0 1)=[T]:=rfl
 have s2:(sub ([id]:List Int) 0 1)=[id]:=rfl
 have s3:∀ x y:GLot,(sub ([x,y]:List GLot) 0 2)=[x,y]:=fun _ _=>rfl
 have q1:eqL ([T]:List GLot).length 1=true:=rfl
 have q2:eqL ([id]:List Int).length 1=true:=rfl
 have q3:∀ x y:GLot,eqL ([x,y]:List GLot).length 2=true:=fun _ _=>rfl
 have hTk:∀ t∈[T],LotOk t:=fun t ht=>by
  have:t=T:=by simpa using ht
  subst this;exact hfo
 have ln:pc_line n [T]=some (lineL [T]):=pc_line_eq hTk (by simp) (by simp;omega)
 have lnl:(lineL [T]).length≤901:=by
  have h1:=length_setL (([T]:List GLot).flatMap fun t=>t.id::t.from_)
  have h2:=lens_flat [T] hTk
  have h3:(lineL [T]).length≤_:=h1
  simp only[List.length_singleton]at h2
  omega
 have rp:=pc_replace_eq (n:=n) (land:=land) (old:=[id]) (lots:=[GLot.mk a T.owner I.1 (lineL [T]),GLot.mk b T.owner O.1 (lineL [T])]) h (by omega) (by simp) (fun t ht=>by
  rcases mem_cons.1 ht with rfl |ht
  ·exact⟨by show I.1.length≤900;omega,by show (lineL [T]).length≤10000;omega⟩
  ·have:t=GLot.mk b T.owner O.1 (lineL [T]):=by simpa using ht
   subst this
   exact⟨by show O.1.length≤900;omega,by show (lineL [T]).length≤10000;omega⟩) (by simp) hn
 simp only[bind_some,s1,q1,cond_true,ln,sub_all,eqL_self,s2,q2,s3,q3,rp]
 cases I.2==0 with
 |false=>
  simp only[cond_false,bind_some,Bool.false_and,Bool.false_or]
  cases O.2==0<;>cases decide (O.1=[])<;>cases I.2 != 0<;>cases O.2 != 0<;>cases ((partsL I.1).length:Int)==1<;>cases ((partsL O.1).length:Int)==1<;>rfl
 |true=>
  simp only[cond_true,bind_some,Bool.true_and]
  cases decide (I.1=[])<;>cases O.2==0<;>cases decide (O.1=[])<;>cases I.2 != 0<;>cases O.2 != 0<;>cases ((partsL I.1).length:Int)==1<;>cases ((partsL O.1).length:Int)==1<;>rfl
end Go.Proofs
namespace Go.Proofs
open Go.Gb Go.RowKit
abbrev ltY (a b:GRect):Bool:=decide (a.y0 < b.y0)
theorem swo_ltY:Go.Sort.SWO ltY where
 irrefl x:=by simp[ltY]
 trans x y z h1 h2:=by simp only[ltY,decide_eq_true_eq]at *;omega
 ntrans x y z h1 h2:=by simp only[ltY,decide_eq_false_iff_not]at *;omega
instance:Inhabited GRect:=⟨GRect.mk 0 0 0 0⟩
theorem pdqb_Rect (n:Nat) (rc:List GRect→Int→Int→Int→((GRect×GRect×Unit)→Option Int)→Option (List GRect)) (φ:(GRect×GRect×Unit)→Option Int) (l:List GRect) (a b d:Int):sl_pdqsortCmpFunc_Rect_b n rc l a b d φ=gPdqsort_b (fun x y=>φ (x,y,())) (fun r=>decide (r < 0)) sl_nextPowerOfTwo sl_xorshift_Next n (fun l a b d=>rc l a b d φ) l a b d:=by kernel_rfl
theorem pdqm_Rect (n:Nat) (φ:(GRect×GRect×Unit)→Option Int):∀ m l a b d,sl_pdqsortCmpFunc_Rect_m n m l a b d φ=gPdqsort_m (fun x y=>φ (x,y,())) (fun r=>decide (r < 0)) sl_nextPowerOfTwo sl_xorshift_Next n m l a b d
 | 0,l,a,b,d=>rfl
 |m+1,l,a,b,d=>by
  have e:(fun l a b d=>sl_pdqsortCmpFunc_Rect_m n m l a b d φ)=gPdqsort_m (fun x y=>φ (x,y,())) (fun r=>decide (r < 0)) sl_nextPowerOfTwo sl_xorshift_Next n m:=by
   funext l a b d
   exact pdqm_Rect n φ m l a b d
  show sl_pdqsortCmpFunc_Rect_b n (sl_pdqsortCmpFunc_Rect_m n m) l a b d φ=gPdqsort_b (fun x y=>φ (x,y,())) (fun r=>decide (r < 0)) sl_nextPowerOfTwo sl_xorshift_Next n (gPdqsort_m (fun x y=>φ (x,y,())) (fun r=>decide (r < 0)) sl_nextPowerOfTwo sl_xorshift_Next n m) l a b d
  rw[← e]
  exact pdqb_Rect n (sl_pdqsortCmpFunc_Rect_m n m) φ l a b d
theorem sl_SortFunc_Rect_eq {n:Nat} {l:List GRect} {φ:(GRect×GRect×Unit)→Option Int} (f:GRect→GRect→Int) (hφ:∀ x y,φ (x,y,())=some (f x y)) (hf:∀ x y,decide (f x y < 0)=ltY x y) (hl:l.length < 1099511627776) (hn:l.length < n):sl_SortFunc_Rect n l φ=some (sortG ltY l):=by
 unfold sl_SortFunc_Rect sl_pdqsortCmpFunc_Rect
 rw[wrap_u64n (by omega),bits_Len_eq (by omega)]
 simp only[bind_some,eqL_self,cond_true,pdqm_Rect]
 rw[gPdqsort_sorts (lt:=ltY) swo_ltY (f:=f) (q:=fun r=>decide (r < 0)) hφ hf nptOk xshOk (by omega) hn hn]
 rfl
def spanR (r:GRect):Gspan:=⟨r.y0,r.y1⟩
theorem rectsL_span (x0 x1:Int) (c:List Gspan):(rectsL x0 x1 c).map spanR=c:=by
 unfold rectsL
 rw[List.map_map]
 exact List.map_id'' (fun s=>rfl) c
theorem rectsL_len (x0 x1:Int) (c:List Gspan):(rectsL x0 x1 c).length=c.length:=by simp[rectsL]
theorem rectsL_get {x0 x1:Int} {c:List Gspan} {i:Nat} (h:i < c.length):at? (rectsL x0 x1 c) (i:Int)=some ⟨x0,c[i].from_,x1,c[i].to⟩:=by
 rw[at_get (by rw[rectsL_len];exact h)]
 simp[rectsL]
theorem rectsL_of {x0 x1:Int}:∀ {L:List GRect},(∀ r∈L,r.x0=x0∧r.x1=x1)→L=rectsL x0 x1 (L.map spanR)
 |[],_=>rfl
 |r::L,h=>by
  have h1:=h r List.mem_cons_self
  have h2:=rectsL_of (L:=L) fun q hq=>h q (List.mem_cons_of_mem _ hq)
  show r::L=⟨x0,r.y0,x1,r.y1⟩::rectsL x0 x1 (L.map spanR)
  rw[← h2]
  obtain⟨a,b,c,d⟩:=r
  obtain⟨rfl,rfl⟩:=h1
  rfl
def spansIn (l:List GRect) (x0 x1:Int):List Gspan:=(l.filter fun r=>decide (r.x0≤x0)&&decide (x1≤r.x1)).map spanR
theorem pc_column_s1_run {l:List GRect} {x0 x1:Int} (hl:l.length < 1099511627776) {n:Nat} (hn:l.length < n):iter (pc_column_s1 l x0 x1) n ((0:Int),([]:List GRect))=some (rectsL x0 x1 (spansIn l x0 x1)):=by
 have:=iter_foldI (l:=l) (step:=pc_column_s1 l x0 x1) (fun i (s:List GRect)=>((i:Int),s)) (fun r s=>bif decide (r.x0≤x0)&&decide (x1≤r.x1)then s++[⟨x0,r.y0,x1,r.y1⟩]else s) (fun s=>s) (fun i s=>s.length≤i)
  (fun i hi s hs=>?_) (fun s hs=>by simp[pc_column_s1]) n hn [] (Nat.le_refl _)
 ·rw[show ((0:Nat):Int)=0 from rfl]at this
  rw[this]
  congr 1
  have gen:∀ (ys:List GRect) (s:List GRect),ys.foldl (fun s r=>bif decide (r.x0≤x0)&&decide (x1≤r.x1)then s++[⟨x0,r.y0,x1,r.y1⟩]else s) s=s++rectsL x0 x1 (spansIn ys x0 x1):=by
   intro ys
   induction ys with
   |nil=>intro s;simp[spansIn,rectsL]
   |cons y ys ih=>
    intro s
    simp only[List.foldl_cons,ih]
    cases h:(decide (y.x0≤x0)&&decide (x1≤y.x1))with
    |true=>simp[spansIn,h,rectsL,spanR]
    |false=>simp[spansIn,h]
  simpa using gen l []
 ·have hi':decide (((i:Nat):Int) < (l.length:Int))=true:=by simpa using hi
  have ap:appOk s.length s.length (sub ([(GRect.mk x0 l[i].y0 x1 l[i].y1)]:List GRect) 0 1).length 1 32=true:=appOk_true (n:=1) (by omega) (by simp only[maxLen];omega)
  simp only[pc_column_s1,hi',cond_true,at_get hi,bind_some,bifand]
  cases h:(decide (l[i].x0≤x0)&&decide (x1≤l[i].x1))with
  |true=>
   simp only[cond_true,ap,letv_eq,eqL_self,bind_some]
   refine⟨?_,by simp;omega⟩
   rw[wrap_succ (by omega)];rfl
  |false=>
   simp only[cond_false,eqL_self,cond_true,bind_some]
   exact⟨by rw[wrap_succ (by omega)],by omega⟩
theorem pc_column_s2_run {n:Nat} {x0 x1:Int} (w1:List GRect) (T:List Gspan) (hw:w1.length=T.length) (hl:T.length < 1099511627776) (hn:T.length < n):iter (pc_column_s2 w1 (rectsL x0 x1 T)) n ((0:Int),([]:List GRect))=some (rectsL x0 x1 (T.foldl mrg [])):=by
 have:=iter_foldI (l:=T) (step:=pc_column_s2 w1 (rectsL x0 x1 T)) (fun i (s:List Gspan)=>((i:Int),rectsL x0 x1 s)) (fun r s=>mrg s r) (fun s=>rectsL x0 x1 s) (fun i s=>s.length≤i)
  (fun i hi s hs=>?_) (fun s hs=>by simp[pc_column_s2,hw]) n hn [] (Nat.le_refl _)
 ·rw[show ((0:Nat):Int)=0 from rfl]at this
  exact this
 ·refine⟨?_,by have:=length_mrg s T[i];omega⟩
  have hi':decide (((i:Nat):Int) < ((w1.length:Nat):Int))=true:=by simp;omega
  have ib:inb (i:Int) w1.length=true:=inb_get (by omega)
  have g0:at? (rectsL x0 x1 T) (((0:Nat):Int)+(i:Int))=some ⟨x0,T[i].from_,x1,T[i].to⟩:=by
   rw[show ((0:Nat):Int)+(i:Int)=(i:Int)by simp];exact rectsL_get hi
  have s1:∀ r:GRect,(sub ([r]:List GRect) 0 1)=[r]:=fun _=>rfl
  have ap:∀ r:GRect,appOk (rectsL x0 x1 s).length (rectsL x0 x1 s).length ([r]:List GRect).length 1 32=true:=fun r=>appOk_true (n:=1) (by rw[rectsL_len];omega) (by rw[rectsL_len];simp only[maxLen];omega)
  simp only[pc_column_s2,hi',cond_true,ib,g0,bind_some,s1,ap]
  rcases List.eq_nil_or_concat s with rfl |⟨s0,q,hsq⟩
  ·have d0:decide ((((rectsL x0 x1 []).length:Nat):Int)>0)=false:=by simp[rectsL]
   simp only[d0,cond_false,bind_some,cond_true,letv_eq,eqL_self]
   rw[wrap_succ (by omega)]
   rfl
  ·rw[List.concat_eq_append]at hsq
   subst hsq
   have lenq:(s0++[q]).length=s0.length+1:=by simp
   have e0:rectsL x0 x1 (s0++[q])=rectsL x0 x1 s0++[⟨x0,q.from_,x1,q.to⟩]:=by simp[rectsL]
   have l0:(rectsL x0 x1 (s0++[q])).length=s0.length+1:=by rw[rectsL_len,lenq]
   have d0:decide (((((rectsL x0 x1 (s0++[q])).length:Nat):Int))>0)=true:=by rw[l0];simp<;>omega
   have wp:i64.wrap ((((rectsL x0 x1 (s0++[q])).length:Nat):Int) - 1)=((s0.length:Nat):Int):=by rw[wrap_pred (by rw[l0];omega) (by rw[l0];omega),l0];rfl
   have ib2:inb ((s0.length:Nat):Int) (rectsL x0 x1 (s0++[q])).length=true:=inb_get (by rw[l0];omega)
   have g:at? (rectsL x0 x1 (s0++[q])) (((0:Nat):Int)+((s0.length:Nat):Int))=some ⟨x0,q.from_,x1,q.to⟩:=by
    rw[at_natz,e0,List.getElem?_append_right (by rw[rectsL_len];exact Nat.le_refl _),rectsL_len];simp
   have z:(((0:Nat):Int)+((s0.length:Nat):Int)).toNat=s0.length:=by simp
   have st:(rectsL x0 x1 (s0++[q])).set s0.length (GRect.mk x0 q.from_ x1 (max q.to T[i].to))=rectsL x0 x1 (s0++[⟨q.from_,max q.to T[i].to⟩]):=by
    rw[e0,List.set_append_right _ _ (by rw[rectsL_len];exact Nat.le_refl _),rectsL_len]
    simp[rectsL]
   have m:mrg (s0++[q]) T[i]=bif decide (T[i].from_≤q.to)then s0++[⟨q.from_,max q.to T[i].to⟩]else s0++[q]++[T[i]]:=by
    simp[mrg]
   simp only[d0,cond_true,wp,ib2,g,bind_some,m,z,st]
   cases decide (T[i].from_≤q.to)with
   |true=>
    have e:eqL (rectsL x0 x1 (s0++[q])).length (rectsL x0 x1 (s0++[(⟨q.from_,max q.to T[i].to⟩:Gspan)])).length=true:=by rw[rectsL_len,rectsL_len];simp
    simp only[cond_true,e,bind_some,eqL_self]
    rw[wrap_succ (by omega)]
   |false=>
    simp only[cond_false,cond_true,letv_eq,eqL_self,bind_some]
    rw[wrap_succ (by omega)]
    simp[rectsL]
theorem pc_column_eq {n:Nat} {l:List GRect} {x0 x1:Int} (hv:∀ r∈l,OkR r=true) (ha:∀ r∈l,(decide (r.x0≤x0)&&decide (x1≤r.x1))=(decide (r.x0≤x0)&&decide (x0 < r.x1)))
 (hl:l.length < 1099511627776) (hn:l.length < n):pc_column n l x0 x1=some (rectsL x0 x1 (columnL l x0)):=by
 have hs:spansIn l x0 x1=spansAt l x0:=by
  unfold spansIn spansAt
  rw[List.filter_congr ha]
  rfl
 have h1:=length_spansAt l x0
 have hp:=sortG_perm swo_ltY (rectsL x0 x1 (spansAt l x0))
 have hso:=sortG_sorted swo_ltY (rectsL x0 x1 (spansAt l x0))
 have h2:(sortG ltY (rectsL x0 x1 (spansAt l x0))).length=(spansAt l x0).length:=by rw[length_sortG swo_ltY,rectsL_len]
 unfold pc_column
 simp only[List.length_nil,eqL_self,cond_true,pc_column_s1_run (x0:=x0) (x1:=x1) (l:=l) (by omega) (n:=n) (by omega),bind_some,hs]
 rw[sl_SortFunc_Rect_eq (fun a b=>if a.y0 < b.y0 then -1 else if b.y0 < a.y0 then 1 else 0) (fun a b=>by show pc_column_f1 a b=_;unfold pc_column_f1;rw[cmp_Compare_int_eq];rfl) (fun a b=>by
  by_cases h1:a.y0 < b.y0
  ·simp[h1]
  ·by_cases h2:b.y0 < a.y0<;>simp[h1,h2]) (by rw[rectsL_len];omega) (by rw[rectsL_len];omega)]
 simp only[bind_some]
 generalize hL:sortG ltY (rectsL x0 x1 (spansAt l x0))=L at*
 have hx:∀ r∈L,r.x0=x0∧r.x1=x1:=by
  intro r hr
  have:=hp.mem_iff.1 hr
  simp only[rectsL,mem_map]at this
  obtain⟨s,_,rfl⟩:=this
  exact⟨rfl,rfl⟩
 have eL:=rectsL_of hx
 have pT:(L.map spanR).Perm (spansAt l x0):=by
  have:=hp.map spanR
  rw[rectsL_span]at this
  exact this
 have sT:(L.map spanR).Pairwise fun x y=>x.from_≤y.from_:=by
  rw[List.pairwise_map]
  refine hso.imp fun {a b} hab=>?_
  simp only[ltY,decide_eq_false_iff_not]at hab
  show a.y0≤b.y0
  omega
 generalize L.map spanR=T at eL pT sT
 subst eL
 rw[rectsL_len]at h2
 rw[pc_column_s2_run _ T (by rw[rectsL_len];omega) (by omega) (by omega)]
 simp only[bind_some,sub_all,eqL_self,cond_true]
 have oT:∀ s∈T,OkS s:=fun s h=>spansAt_ok hv x0 s (pT.mem_iff.1 h)
 obtain⟨c1,c2⟩:=foldl_mrg T [] can_nil oT sT (by simp)
 obtain⟨d1,d2⟩:=columnL_spec hv x0
 rw[can_unique c1 d1 fun y=>by rw[c2,d2,inS_nil,Bool.false_or,inS_perm pT,inS_spansAt]]
theorem wrGo_new (s t:Gstrip) (h:s.column≠t.column):∀ (S:List Gstrip) (x0 x1:Int) (c:List Gspan),wrGo x0 x1 c (S++[t,s])=wrGo x0 x1 c (S++[t])++rectsL s.x0 s.x1 s.column
 |[],x0,x1,c=>by
  simp only[nil_append,wrGo]
  split
  ·rename_i e
   rw[if_neg (fun h'=>h (h'.trans e.symm))]
  ·rw[append_assoc]
 |a::S,x0,x1,c=>by
  simp only[List.cons_append,wrGo]
  split
  ·exact wrGo_new s t h S _ _ _
  ·rw[wrGo_new s t h S,append_assoc]
theorem wrGo_same (s t:Gstrip) (h:s.column=t.column):∀ (S:List Gstrip) (x0 x1:Int) (c:List Gspan),∃ pre x',wrGo x0 x1 c (S++[t])=pre++rectsL x' t.x1 t.column∧wrGo x0 x1 c (S++[t,s])=pre++rectsL x' s.x1 t.column
 |[],x0,x1,c=>by
  simp only[nil_append,wrGo]
  split
  ·rename_i e
   refine⟨[],x0,by rw[e];rfl,?_⟩
   rw[if_pos (h.trans e),e];rfl
  ·exact⟨rectsL x0 x1 c,t.x0,rfl,rfl⟩
 |a::S,x0,x1,c=>by
  simp only[List.cons_append,wrGo]
  split
  ·exact wrGo_same s t h S _ _ _
  ·obtain⟨pre,x',h1,h2⟩:=wrGo_same s t h S a.x0 a.x1 a.column
   exact⟨rectsL x0 x1 c++pre,x',by rw[h1,append_assoc],by rw[h2,append_assoc]⟩
theorem writeL_new (s t:Gstrip) (h:s.column≠t.column) (S:List Gstrip):writeL (S++[t,s])=writeL (S++[t])++rectsL s.x0 s.x1 s.column:=by
 cases S with
 |nil=>simp only[nil_append,writeL,wrGo,if_neg h]
 |cons a S=>exact wrGo_new s t h S _ _ _
theorem writeL_same (s t:Gstrip) (h:s.column=t.column) (S:List Gstrip):∃ pre x',writeL (S++[t])=pre++rectsL x' t.x1 t.column∧writeL (S++[t,s])=pre++rectsL x' s.x1 t.column:=by
 cases S with
 |nil=>exact⟨[],t.x0,rfl,by simp only[nil_append,writeL,wrGo,if_pos h]⟩
 |cons a S=>exact wrGo_same s t h S _ _ _
theorem eqfR {n:Nat} {x0 x1 u0 u1:Int} {c d:List Gspan} (hl:c.length < 1099511627776) (hn:c.length < n):
 sl_EqualFunc_Rect_Rect n (rectsL x0 x1 c) (rectsL u0 u1 d) (fun y:GRect×GRect×Unit=>pc_form_f1 y.1 y.2.1)=some (decide (c=d)):=by
 unfold sl_EqualFunc_Rect_Rect
 rw[rectsL_len,rectsL_len]
 by_cases hlen:c.length=d.length
 ·have h0:(((c.length:Nat):Int) != ((d.length:Nat):Int))=false:=by simp[hlen]
  rw[h0]
  have zl:(c.zip d).length=c.length:=by rw[List.length_zip];omega
  have:=iter_find (l:=c.zip d) (step:=sl_EqualFunc_Rect_Rect_s1 (rectsL x0 x1 c) (rectsL u0 u1 d) (fun y:GRect×GRect×Unit=>pc_form_f1 y.1 y.2.1)) (fun i=>((i:Nat):Int)) (fun z=>!decide (z.1=z.2)) () (fun _=>false) (fun i hi=>?_) ?_ n (by omega)
  ·rw[show ((0:Nat):Int)=0 from rfl]at this
   simp only[cond_false]
   rw[this]
   rcases findL_spec (fun z:Gspan×Gspan=>!decide (z.1=z.2)) (c.zip d)with ⟨i,hi,h1,h2,_⟩ |⟨h1,h2⟩
   ·rw[h1]
    have:c≠d:=by
     intro e
     subst e
     simp at h2
    simp[this]
   ·rw[h1]
    have:c=d:=by
     refine List.ext_getElem hlen fun i hi hj=>?_
     have hm:(c[i],d[i])∈c.zip d:=by
      rw[List.mem_iff_getElem]
      exact⟨i,by omega,by simp⟩
     have:=h2 _ hm
     simpa using this
    simp[this]
  ·have hic:i < c.length:=by omega
   have hid:i < d.length:=by omega
   have hi':decide (((i:Nat):Int) < (((rectsL x0 x1 c).length:Nat):Int))=true:=by rw[rectsL_len];simpa using hic
   simp only[sl_EqualFunc_Rect_Rect_s1,hi',cond_true,rectsL_get hic,rectsL_get hid,bind_some,List.getElem_zip]
   generalize c[i]=p
   generalize d[i]=q
   obtain⟨p1,p2⟩:=p
   obtain⟨q1,q2⟩:=q
   have e:decide ((⟨p1,p2⟩:Gspan)=⟨q1,q2⟩)=((p1==q1)&&(p2==q2)):=by
    rw[Bool.eq_iff_iff];simp
   rw[e]
   unfold pc_form_f1
   simp only
   rw[wrap_succ (by omega)]
   cases p1==q1<;>cases p2==q2<;>rfl
  ·have hi':decide ((((c.zip d).length:Nat):Int) < (((rectsL x0 x1 c).length:Nat):Int))=false:=by rw[rectsL_len,zl];simp
   simp only[sl_EqualFunc_Rect_Rect_s1,hi',cond_false]
 ·have h0:(((c.length:Nat):Int) != ((d.length:Nat):Int))=true:=by
   rw[bne_iff_ne];omega
  rw[h0]
  have:c≠d:=fun e=>hlen (by rw[e])
  simp[this]
theorem pc_form_s1_run {n:Nat} {l:List GRect} (hl:l.length < 10995116277) (hn:l.length < n):iter (pc_form_s1 l) n ((0:Int),([]:List Int))=some (l.flatMap fun r=>[r.x0,r.x1]):=by
 have:=iter_foldI (l:=l) (step:=pc_form_s1 l) (fun i (s:List Int)=>((i:Int),s)) (fun r s=>s++[r.x0,r.x1]) (fun s=>s) (fun i s=>s.length≤2*i)
  (fun i hi s hs=>?_) (fun s hs=>by simp[pc_form_s1]) n hn [] (Nat.le_refl _)
 ·rw[show ((0:Nat):Int)=0 from rfl]at this
  rw[this]
  have gen:∀ (ys:List GRect) (s:List Int),ys.foldl (fun s r=>s++[r.x0,r.x1]) s=s++ys.flatMap fun r=>[r.x0,r.x1]:=by
   intro ys
   induction ys with
   |nil=>intro s;simp
   |cons y ys ih=>intro s;simp[ih]
  congr 1
  simpa using gen l []
 ·have hi':decide (((i:Nat):Int) < ((l.length:Nat):Int))=true:=by simpa using hi
  have ap:appOk s.length s.length (sub ([l[i].x0,l[i].x1]:List Int) 0 2).length 2 8=true:=appOk_true (n:=2) (by omega) (by simp only[maxLen];omega)
  simp only[pc_form_s1,hi',cond_true,at_get hi,bind_some,ap,letv_eq,eqL_self]
  refine⟨?_,by simp;omega⟩
  rw[wrap_succ (by omega)];rfl
theorem pc_form_s3_run {n:Nat} (es:List Int) (i:Nat) (hi:i+1 < es.length) (he:es.length < 1099511627776) (pre:List GRect) (x' x1:Int) (c:List Gspan) (hl:pre.length+c.length < 1099511627776) (hn:c.length < n):
 iter (pc_form_s3 ((),es) (i:Int) (pre++rectsL x' x1 c)) n (((pre.length:Nat):Int),pre++rectsL x' x1 c)=some (pre++rectsL x' es[i+1] c):=by
 have:=iter_to (step:=pc_form_s3 ((),es) (i:Int) (pre++rectsL x' x1 c)) (fun j=>(((pre.length+j:Nat):Int),pre++(rectsL x' es[i+1] (c.take j)++rectsL x' x1 (c.drop j)))) c.length (pre++rectsL x' es[i+1] c) (fun j hj=>?_) ?_ n hn
 ·simpa[rectsL]using this
 ·have lt:(pre++rectsL x' x1 c).length=pre.length+c.length:=by rw[length_append,rectsL_len]
  have d:decide (((pre.length+j:Nat):Int) < (((pre++rectsL x' x1 c).length:Nat):Int))=true:=by rw[lt];simp;omega
  have w:i64.wrap ((i:Int)+1)=((i+1:Nat):Int):=wrap_succ (by omega)
  have ib:inb ((pre.length+j:Nat):Int) (pre++rectsL x' x1 c).length=true:=inb_get (by rw[lt];omega)
  have tl:(rectsL x' es[i+1] (c.take j)).length=j:=by rw[rectsL_len,length_take];omega
  have dr:c.drop j=c[j]::c.drop (j+1):=List.drop_eq_getElem_cons hj
  have e1:rectsL x' x1 (c.drop j)=⟨x',c[j].from_,x1,c[j].to⟩::rectsL x' x1 (c.drop (j+1)):=by rw[dr];rfl
  have g:at? (pre++(rectsL x' es[i+1] (c.take j)++rectsL x' x1 (c.drop j))) (((0:Nat):Int)+((pre.length+j:Nat):Int))=some ⟨x',c[j].from_,x1,c[j].to⟩:=by
   rw[at_natz,List.getElem?_append_right (by omega),List.getElem?_append_right (by omega),tl,e1]
   simp
  have z:(((0:Nat):Int)+((pre.length+j:Nat):Int)).toNat=pre.length+j:=by omega
  have sn:rectsL x' es[i+1] (c.take j++[c[j]])=rectsL x' es[i+1] (c.take j)++[GRect.mk x' c[j].from_ es[i+1] c[j].to]:=by unfold rectsL;rw[List.map_append];rfl
  have st:(pre++(rectsL x' es[i+1] (c.take j)++rectsL x' x1 (c.drop j))).set (pre.length+j) (GRect.mk x' c[j].from_ es[i+1] c[j].to)=pre++(rectsL x' es[i+1] (c.take (j+1))++rectsL x' x1 (c.drop (j+1))):=by
   rw[List.set_append_right _ _ (by omega),List.set_append_right _ _ (by omega),tl,e1,List.take_succ_eq_append_getElem hj,sn,Nat.add_sub_cancel_left,Nat.sub_self,List.set_cons_zero,append_assoc]
   rfl
  simp only[pc_form_s3,d,cond_true,w,inb_get hi,at_getz hi,bind_some,ib,g,z,st]
  rw[wrap_succ (by omega)]
  rfl
 ·have lt:(pre++rectsL x' x1 c).length=pre.length+c.length:=by rw[length_append,rectsL_len]
  have d:decide (((pre.length+c.length:Nat):Int) < (((pre++rectsL x' x1 c).length:Nat):Int))=false:=by rw[lt];simp
  simp only[pc_form_s3,d,cond_false,List.take_length,List.drop_length]
  simp[rectsL]
def lastR (P:List Gstrip) (i:Nat):List GRect:=match (P.take i).getLast? with
 |some s=>rectsL s.x0 s.x1 s.column
 |none=>[]
theorem pc_form_eq {n:Nat} {l:List GRect} (hv:∀ r∈l,OkR r=true) (hl:l.length≤4000) (hn:10000≤n):pc_form n l=some (writeL (stripsL l)):=by
 unfold pc_form
 have he:=length_edgesL l
 simp only[List.length_nil,eqL_self,cond_true,pc_form_s1_run (l:=l) (n:=n) (by omega) (by omega),bind_some]
 rw[sl_Sort_int_eq (by rw[flatMap_len];omega) (by rw[flatMap_len];omega)]
 simp only[bind_some,length_isort,eqL_self,cond_true]
 rw[sl_Compact_int_eq (by rw[length_isort,flatMap_len];omega) (by rw[length_isort,flatMap_len];omega)]
 simp only[bind_some]
 have hE:compactL (isort ltI (l.flatMap fun r=>[r.x0,r.x1]))=edgesL l:=rfl
 rw[hE]
 obtain⟨p1,p2⟩:=pairsL_get (fun a b=>(⟨a,b,columnL l a⟩:Gstrip)) (edgesL l)
 have hP:(stripsL l).length=(edgesL l).length - 1:=p1
 have bl:∀ i,(writeL ((stripsL l).take i)).length≤8000*4000:=by
  intro i
  have h1:=length_writeL ((stripsL l).take i) 4000 fun s hs=>by
   have:=stripsL_col (List.mem_of_mem_take hs)
   omega
  have h2:((stripsL l).take i).length≤8000:=by rw[length_take];omega
  exact Nat.le_trans h1 (Nat.mul_le_mul_right _ h2)
 have mx:max (0:Int) (i64.wrap ((((edgesL l).length:Nat):Int) - 1))=(((stripsL l).length:Nat):Int):=by
  rw[wrap_id (by omega) (by omega)];omega
 have key:iter (pc_form_s2 n l ((),edgesL l)) n ((0:Int),([]:List GRect),([]:List GRect))=some (writeL (stripsL l)):=by
  have:=iter_to (step:=pc_form_s2 n l ((),edgesL l)) (fun i=>(((i:Nat):Int),writeL ((stripsL l).take i),lastR (stripsL l) i)) (stripsL l).length (writeL (stripsL l)) (fun i hi=>?_) ?_ n (by omega)
  ·simpa[writeL,lastR]using this
  ·have hi2:i+1 < (edgesL l).length:=by omega
   have hi1:i < (edgesL l).length:=by omega
   have d:decide (((i:Nat):Int) < (((stripsL l).length:Nat):Int))=true:=by simpa using hi
   have w:i64.wrap ((i:Int)+1)=((i+1:Nat):Int):=wrap_succ (by omega)
   have hs:(stripsL l)[i]=⟨(edgesL l)[i],(edgesL l)[i+1],columnL l (edgesL l)[i]⟩:=p2 i hi2 hi
   have adj:∀ r∈l,(decide (r.x0≤(edgesL l)[i])&&decide ((edgesL l)[i+1]≤r.x1))=(decide (r.x0≤(edgesL l)[i])&&decide ((edgesL l)[i] < r.x1)):=by
    intro r hr
    congr 1
    have hm:r.x1∈edgesL l:=edgesL_mem.2 ⟨r,hr,.inr rfl⟩
    obtain⟨j,hj,e⟩:=List.mem_iff_getElem.1 hm
    have hst:=edgesL_strict l
    rw[List.pairwise_iff_getElem]at hst
    rw[← e,Bool.eq_iff_iff,decide_eq_true_eq,decide_eq_true_eq]
    rcases Nat.lt_or_ge i j with hij |hij
    ·have a1:=hst i j hi1 hj hij
     rcases Nat.eq_or_lt_of_le (show i+1≤j by omega)with e |hlt
     ·subst e;omega
     ·have a2:=hst (i+1) j hi2 hj hlt
      omega
    ·rcases Nat.eq_or_lt_of_le hij with e |hlt
     ·subst e
      have a2:=hst j (j+1) hj hi2 (by omega)
      omega
     ·have a1:=hst j i hj hi1 hlt
      have a2:=hst i (i+1) hi1 hi2 (by omega)
      omega
   have lc:=length_columnL l (edgesL l)[i]
   have co:=pc_column_eq (n:=n) (l:=l) (x0:=(edgesL l)[i]) (x1:=(edgesL l)[i+1]) hv adj (by omega) (by omega)
   have tk:=List.take_succ_eq_append_getElem hi
   have tkl:(stripsL l).take (i+1)=(stripsL l).take i++[(⟨(edgesL l)[i],(edgesL l)[i+1],columnL l (edgesL l)[i]⟩:Gstrip)]:=by rw[tk,hs]
   have la:lastR (stripsL l) (i+1)=rectsL (edgesL l)[i] (edgesL l)[i+1] (columnL l (edgesL l)[i]):=by
    unfold lastR
    rw[tkl,List.getLast?_append]
    rfl
   have bi:=bl i
   have ap:appOk (writeL ((stripsL l).take i)).length (writeL ((stripsL l).take i)).length (rectsL (edgesL l)[i] (edgesL l)[i+1] (columnL l (edgesL l)[i])).length (rectsL (edgesL l)[i] (edgesL l)[i+1] (columnL l (edgesL l)[i])).length 32=true:=by
    refine appOk_true ?_ ?_
    ·rw[rectsL_len];omega
    ·rw[rectsL_len];simp only[maxLen];omega
   simp only[pc_form_s2,mx,d,cond_true,inb_get hi1,at_getz hi1,bind_some,w,inb_get hi2,at_getz hi2,co,sub_all,eqL_self,la,ap,letv_eq]
   rcases List.eq_nil_or_concat ((stripsL l).take i)with e0 |⟨S,t,e0⟩
   ·
    have lz:lastR (stripsL l) i=rectsL 0 0 []:=by unfold lastR;rw[e0];rfl
    have wn:writeL ((stripsL l).take (i+1))=rectsL (edgesL l)[i] (edgesL l)[i+1] (columnL l (edgesL l)[i]):=by
     rw[tkl,e0];rfl
    have wz:writeL ((stripsL l).take i)=[]:=by rw[e0];rfl
    rw[lz,eqfR (by omega) (by omega),wn,wz]
    cases hc:columnL l (edgesL l)[i]with
    |nil=>
     have dz:decide ((((rectsL (edgesL l)[i] (edgesL l)[i+1] []).length:Nat):Int)>0)=false:=by simp[rectsL]
     simp only[dz,cond_false,bind_some,eqL_self,cond_true]
     rfl
    |cons q c=>
     have dz:decide (q::c=[])=false:=by simp
     simp only[dz,bind_some]
     cases decide ((((rectsL (edgesL l)[i] (edgesL l)[i+1] (q::c)).length:Nat):Int)>0)<;>simp only[cond_true,cond_false,bind_some,eqL_self]<;>rfl
   ·rw[List.concat_eq_append]at e0
    have lz:lastR (stripsL l) i=rectsL t.x0 t.x1 t.column:=by unfold lastR;rw[e0,List.getLast?_append];rfl
    have tk2:(stripsL l).take (i+1)=S++[t,(⟨(edgesL l)[i],(edgesL l)[i+1],columnL l (edgesL l)[i]⟩:Gstrip)]:=by rw[tkl,e0,append_assoc];rfl
    rw[lz,eqfR (by omega) (by omega)]
    by_cases hc:columnL l (edgesL l)[i]=t.column
    ·obtain⟨pre,x',w1,w2⟩:=writeL_same ⟨(edgesL l)[i],(edgesL l)[i+1],columnL l (edgesL l)[i]⟩ t hc S
     have ww:writeL ((stripsL l).take i)=pre++rectsL x' t.x1 t.column:=by rw[e0,w1]
     have ww2:writeL ((stripsL l).take (i+1))=pre++rectsL x' (edgesL l)[i+1] t.column:=by rw[tk2,w2]
     rw[ww2,ww]
     rw[ww,length_append,rectsL_len]at bi
     have s3:=pc_form_s3_run (n:=n) (edgesL l) i hi2 (by omega) pre x' t.x1 t.column (by omega) (by rw[← hc];omega)
     have wd:i64.wrap ((((pre++rectsL x' t.x1 t.column).length:Nat):Int) - (((rectsL (edgesL l)[i] (edgesL l)[i+1] (columnL l (edgesL l)[i])).length:Nat):Int))=((pre.length:Nat):Int):=by
      rw[length_append,rectsL_len,rectsL_len,hc,wrap_id (by omega) (by omega)];omega
     have le:eqL (pre++rectsL x' t.x1 t.column).length (pre++rectsL x' (edgesL l)[i+1] t.column).length=true:=by
      apply eqL_of;rw[length_append,length_append,rectsL_len,rectsL_len]
     have dc:decide (columnL l (edgesL l)[i]=t.column)=true:=by simpa using hc
     simp only[wd,s3,le,dc,bind_some,cond_true]
     cases hd:decide ((((rectsL (edgesL l)[i] (edgesL l)[i+1] (columnL l (edgesL l)[i])).length:Nat):Int)>0)with
     |true=>simp only[cond_true,bind_some,eqL_self]
     |false=>
      have hz:t.column=[]:=by
       rw[rectsL_len,hc]at hd
       simp at hd
       exact hd
      have hz2:columnL l (edgesL l)[i]=[]:=by rw[hc,hz]
      simp only[cond_false,bind_some,eqL_self,hz,hz2,rectsL,List.map_nil,List.append_nil,cond_true]
    ·have ww2:writeL ((stripsL l).take (i+1))=writeL ((stripsL l).take i)++rectsL (edgesL l)[i] (edgesL l)[i+1] (columnL l (edgesL l)[i]):=by
      rw[tk2,writeL_new _ t hc S,e0]
     have dc:decide (columnL l (edgesL l)[i]=t.column)=false:=by simpa using hc
     rw[ww2]
     simp only[dc,bind_some]
     cases decide ((((rectsL (edgesL l)[i] (edgesL l)[i+1] (columnL l (edgesL l)[i])).length:Nat):Int)>0)<;>simp only[cond_true,cond_false,bind_some,eqL_self]
  ·have d:decide ((((stripsL l).length:Nat):Int) < (((stripsL l).length:Nat):Int))=false:=by simp
   simp only[pc_form_s2,mx,d,cond_false,List.take_length,eqL_self,cond_true]
 rw[key]
 simp only[bind_some,sub_all,eqL_self,cond_true]
end Go.Proofs
