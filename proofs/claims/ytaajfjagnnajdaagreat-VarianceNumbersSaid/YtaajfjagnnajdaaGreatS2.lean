/-
  What the printed functions of package slices and cmp come to.
-/
import Derived.Test.YtaajfjagnnajdaaGreatTD2
open Go.IntKind (i64)
open Option (bind_some)
open List (map_cons mem_cons mem_append length_take all_eq_true mem_singleton nil_append length_append getElem_mem length_cons length_map length_nil take_succ_eq_append_getElem foldl_cons any_eq_true mem_cons_self length_singleton pairwise_cons map_nil map_append pairwise_append getElem_drop)
open Bool (and_eq_true)
namespace Go.Proofs
open Go.Gb Go.RowKit
abbrev ltI (a b:Int):Bool:=decide (a < b)
theorem OQ (a b:Int):cmp_Less_int a b=some (ltI a b):=by simp[cmp_Less_int,cmp_isNaN_int]
theorem xV (a b:Int):cmp_Compare_int a b=some (if a < b then -1 else if b < a then 1 else 0):=by
 by_cases h1:a < b
 ·simp[cmp_Compare_int,cmp_isNaN_int,h1]
 ·by_cases h2:b < a
  ·simp[cmp_Compare_int,cmp_isNaN_int,h1,h2]
  ·simp[cmp_Compare_int,cmp_isNaN_int,h1,h2]
theorem Ub {x:Nat} (k:Nat) (h:2 ^ k<=x):Go.Sort.bitsLen x=Go.Sort.bitsLen (x/2 ^ k)+k:=by
 have key:∀ m,Go.Sort.bitsLen x<=m+k↔Go.Sort.bitsLen (x/2 ^ k)<=m:=by
  intro m;rw[Go.Sort.bitsLen_le_iff,Go.Sort.bitsLen_le_iff,Nat.pow_add,Nat.div_lt_iff_lt_mul (Nat.two_pow_pos k)]
 have h1:=(key (Go.Sort.bitsLen (x/2 ^ k))).2 (Nat.le_refl _);have hk:k<=Go.Sort.bitsLen x:=by
  rcases Nat.lt_or_ge (Go.Sort.bitsLen x) k with hlt |hge
  ·have:=(Go.Sort.bitsLen_le_iff x (Go.Sort.bitsLen x)).1 (Nat.le_refl _);have h2:2 ^ Go.Sort.bitsLen x<=2 ^ k:=Nat.pow_le_pow_right (by omega) (by omega);omega
  ·exact hge
 have h2:=(key (Go.Sort.bitsLen x - k)).1 (by omega);omega
theorem agQ {v:Nat} (h:v < 256):IntKind.u8.wrap ((v:Nat):Int)=(v:Int):=by
 simp only[IntKind.wrap,IntKind.bits,IntKind.signed,Bool.false_and,Bool.false_eq_true,if_false];omega
set_option maxRecDepth 100000 in
theorem uH {x:Nat} (hx:x < 1152921504606846976):bits_Len (x:Int)=some ((Go.Sort.bitsLen x:Nat):Int):=by
 unfold bits_Len bits_Len64;have tab:∀ v:Fin 256,UR (⟨#[0,1,2,2,3,3,3,3,4,4,4,4,4,4,4,4,5,5,5,5,5,5,5,5,5,5,5,5,5,5,5,5,6,6,6,6,6,6,6,6,6,6,6,6,6,6,6,6,6,6,6,6,6,6,6,6,6,6,6,6,6,6,6,6,7,7,7,7,7,7,7,7,7,7,7,7,7,7,7,7,7,7,7,7,7,7,7,7,7,7,7,7,7,7,7,7,7,7,7,7,7,7,7,7,7,7,7,7,7,7,7,7,7,7,7,7,7,7,7,7,7,7,7,7,7,7,7,7,8,8,8,8,8,8,8,8,8,8,8,8,8,8,8,8,8,8,8,8,8,8,8,8,8,8,8,8,8,8,8,8,8,8,8,8,8,8,8,8,8,8,8,8,8,8,8,8,8,8,8,8,8,8,8,8,8,8,8,8,8,8,8,8,8,8,8,8,8,8,8,8,8,8,8,8,8,8,8,8,8,8,8,8,8,8,8,8,8,8,8,8,8,8,8,8,8,8,8,8,8,8,8,8,8,8,8,8,8,8,8,8,8,8,8,8,8,8,8,8,8,8,8,8,8,8,8,8]⟩) ((v.val:Nat):Int)=some ((Go.Sort.bitsLen v.val:Nat):Int):=by decide +kernel
 have k32:(decide (0<=32)&&decide (32<=IntKind.u64.bits))=true:=rfl;have k16:(decide (0<=16)&&decide (16<=IntKind.u64.bits))=true:=rfl;have k8:(decide (0<=8)&&decide (8<=IntKind.u64.bits))=true:=rfl;have step:∀ (x k s:Nat),∃ y t:Nat,((bif (decide ((x:Int)>=((2 ^ k:Nat):Int)))then some (((x/2 ^ k:Nat):Int),((s+k:Nat):Int))else some ((x:Int),(s:Int))):Option (Int×Int))=some ((y:Int),(t:Int))∧Go.Sort.bitsLen x+s=Go.Sort.bitsLen y+t∧(y < 2 ^ k∨y=x/2 ^ k)∧t<=s+k:=by
  intro x k s;by_cases h:2 ^ k<=x
  ·have c:decide ((x:Int)>=((2 ^ k:Nat):Int))=true:=(by rw[decide_eq_true_eq];omega);refine⟨x/2 ^ k,s+k,by rw[c];rfl,?_,.inr rfl,Nat.le_refl _⟩;have:=Ub k h;omega
  ·have c:decide ((x:Int)>=((2 ^ k:Nat):Int))=false:=(by rw[decide_eq_false_iff_not];omega);exact⟨x,s,by rw[c];rfl,rfl,.inl (by omega),by omega⟩
 have sh:∀ (v k:Nat),((v:Int)/2 ^ ((k:Nat):Int).toNat)=((v/2 ^ k:Nat):Int):=by
  intro v k;rw[Int.toNat_natCast]
  push_cast
  rfl
 obtain⟨y1,t1,e1,b1,c1,d1⟩:=step x 32 0;obtain⟨y2,t2,e2,b2,c2,d2⟩:=step y1 16 t1;obtain⟨y3,t3,e3,b3,c3,d3⟩:=step y2 8 t2;have s1:((bif (decide ((x:Int)>=(4294967296:Int)))then bif ((decide (0<=32)&&decide (32<=IntKind.u64.bits)))then some (((x:Int)/2 ^ (32:Int).toNat),(32:Int))else none else some ((x:Int),(0:Int))):Option (Int×Int))=some ((y1:Int),(t1:Int)):=by
  rw[k32,<- e1];rw[show ((x:Int)/2 ^ (32:Int).toNat)=((x/2 ^ 32:Nat):Int)from sh x 32];rfl
 have s2:((bif (decide ((y1:Int)>=(65536:Int)))then bif ((decide (0<=16)&&decide (16<=IntKind.u64.bits)))then some (((y1:Int)/2 ^ (16:Int).toNat),(i64.wrap ((t1:Int)+16)))else none else some ((y1:Int),(t1:Int))):Option (Int×Int))=some ((y2:Int),(t2:Int)):=by
  rw[k16,<- e2];rw[show ((y1:Int)/2 ^ (16:Int).toNat)=((y1/2 ^ 16:Nat):Int)from sh y1 16,show i64.wrap ((t1:Int)+16)=((t1+16:Nat):Int)from MP (j:=16) (by omega)];rfl
 have s3:((bif (decide ((y2:Int)>=(256:Int)))then bif ((decide (0<=8)&&decide (8<=IntKind.u64.bits)))then some (((y2:Int)/2 ^ (8:Int).toNat),(i64.wrap ((t2:Int)+8)))else none else some ((y2:Int),(t2:Int))):Option (Int×Int))=some ((y3:Int),(t3:Int)):=by
  rw[k8,<- e3];rw[show ((y2:Int)/2 ^ (8:Int).toNat)=((y2/2 ^ 8:Nat):Int)from sh y2 8,show i64.wrap ((t2:Int)+8)=((t2+8:Nat):Int)from MP (j:=8) (by omega)];rfl
 have hy:y3 < 256:=by
  have q1:(2:Nat) ^ 32=4294967296:=rfl;have q2:(2:Nat) ^ 16=65536:=rfl;have q3:(2:Nat) ^ 8=256:=rfl;rw[q1]at c1;rw[q2]at c2;rw[q3]at c3;omega
 simp only[s1,bind_some,s2,s3];rw[agQ hy,show UR _ ((y3:Nat):Int)=_ from tab ⟨y3,hy⟩];have hb:Go.Sort.bitsLen y3<=8:=(Go.Sort.bitsLen_le_iff _ _).2 (by simpa using hy);simp only[bind_some];rw[nW (by omega),MP (by omega)];congr 2;omega
theorem abQ:Vl aJ:=by
 intro L h8 hL;have hb:Go.Sort.bitsLen L<=60:=(Go.Sort.bitsLen_le_iff _ _).2 (by omega);have hp:2 ^ Go.Sort.bitsLen L<=2 ^ 60:=Nat.pow_le_pow_right (by omega) hb;unfold aJ;rw[kV (by omega),uH hL,bind_some];have c:(decide ((0:Int)<=((Go.Sort.bitsLen L:Nat):Int))&&decide (((Go.Sort.bitsLen L:Nat):Int)<=((IntKind.u64.bits:Nat):Int)))=true:=by
  have:((IntKind.u64.bits:Nat):Int)=64:=rfl;rw[this,and_eq_true,decide_eq_true_eq,decide_eq_true_eq];omega
 rw[c,cond_true,Int.toNat_natCast,Int.one_mul,show ((2:Int) ^ Go.Sort.bitsLen L)=((2 ^ Go.Sort.bitsLen L:Nat):Int)by push_cast;rfl,kV (by omega)]
theorem abR:RU aK:=by
 intro r hr;have c13:(decide (0<=13)&&decide (13<=IntKind.u64.bits))=true:=rfl;have c7:(decide (0<=7)&&decide (7<=IntKind.u64.bits))=true:=rfl;have c17:(decide (0<=17)&&decide (17<=IntKind.u64.bits))=true:=rfl;have sl:∀ (v k:Nat),IntKind.u64.wrap ((v:Int)*2 ^ ((k:Nat):Int).toNat)=((v*2 ^ k%18446744073709551616:Nat):Int):=by
  intro v k;rw[Int.toNat_natCast,show ((v:Int)*2 ^ k)=((v*2 ^ k:Nat):Int)by push_cast;rfl];simp only[IntKind.wrap,IntKind.bits,IntKind.signed,Bool.false_and,Bool.false_eq_true,if_false];omega
 have sr:∀ (v k:Nat),((v:Int)/2 ^ ((k:Nat):Int).toNat)=((v/2 ^ k:Nat):Int):=by
  intro v k;rw[Int.toNat_natCast];push_cast;rfl
 have ha:r ^^^ (r*2 ^ 13%18446744073709551616) < 18446744073709551616:=Nat.xor_lt_two_pow (n:=64) (by omega) (by omega);have hb:(r ^^^ (r*2 ^ 13%18446744073709551616)) ^^^ ((r ^^^ (r*2 ^ 13%18446744073709551616))/2 ^ 7) < 18446744073709551616:=Nat.xor_lt_two_pow (n:=64) (by omega) (by omega);unfold aK;rw[c13,c7,c17];simp only[cond_true];rw[show IntKind.u64.wrap ((r:Int)*2 ^ (13:Int).toNat)=((r*2 ^ 13%18446744073709551616:Nat):Int)from sl r 13,RS hr (by omega)];rw[show (((r ^^^ (r*2 ^ 13%18446744073709551616):Nat):Int)/2 ^ (7:Int).toNat)=_ from sr _ 7,RS ha (by omega)];rw[show IntKind.u64.wrap (((((r ^^^ (r*2 ^ 13%18446744073709551616)) ^^^ ((r ^^^ (r*2 ^ 13%18446744073709551616))/2 ^ 7):Nat)):Int)*2 ^ (17:Int).toNat)=_ from sl _ 17,RS hb (by omega)];rfl
theorem PU:Go.Sort.SWO ltI where
 irrefl x:=by simp[ltI]
 trans x y z h1 h2:=by simp only[ltI,decide_eq_true_eq]at *;omega
 ntrans x y z h1 h2:=by simp only[ltI,decide_eq_false_iff_not]at *;omega
theorem Vr:∀ {l m:List Int},l.Perm m->l.Pairwise (fun x y=>ltI y x=false)->m.Pairwise (fun x y=>ltI y x=false)->l=m
 |[],m,h,_,_=>(List.nil_perm.1 h).symm
 |x::l,[],h,_,_=>by have:=h.length_eq;simp at this
 |x::l,y::m,h,h1,h2=>by
  have e:x=y:=by
   rw[pairwise_cons]at h1 h2;have m1:x∈y::m:=h.mem_iff.1 mem_cons_self;have m2:y∈x::l:=h.mem_iff.2 mem_cons_self;rcases mem_cons.1 m1 with e |m1
   ·exact e
   ·rcases mem_cons.1 m2 with e |m2
    ·exact e.symm
    ·have a:=h1.1 y m2;have b:=h2.1 x m1;simp only[ltI,decide_eq_false_iff_not]at a b;omega
  subst e;rw[pairwise_cons]at h1 h2;rw[Vr (List.Perm.cons_inv h) h1.2 h2.2]
theorem GJ {α:Type} (lt:α->α->Bool) (x:α):∀ ys:List α,(kr lt x ys).Perm (x::ys)
 |[]=>List.Perm.refl _
 |y::ys=>by
  simp only[kr];cases lt x y with
  |true=>exact ((GJ lt x ys).cons y).trans (List.Perm.swap x y ys)
  |false=>exact List.Perm.refl _
theorem Jz {α:Type} (lt:α->α->Bool) (l:List α):(rD lt l).Perm l:=by
 have gen:∀ (xs rs:List α),(xs.foldl (fun rs x=>kr lt x rs) rs).Perm (xs++rs):=by
  intro xs
  induction xs with
  |nil=>intro rs;exact List.Perm.refl _
  |cons x xs ih=>
   intro rs;refine (ih _).trans ?_;refine ((GJ lt x rs).append_left xs).trans ?_;exact List.perm_middle
 unfold rD;exact (List.reverse_perm _).trans (by simpa using gen l [])
theorem insRev_sorted {α:Type} {lt:α->α->Bool} (hS:Go.Sort.SWO lt) (x:α):∀ ys:List α,ys.Pairwise (fun a b=>lt a b=false)->(kr lt x ys).Pairwise fun a b=>lt a b=false
 |[],_=>by simp[kr]
 |y::ys,h=>by
  have h':=pairwise_cons.1 h;simp only[kr];cases hxy:lt x y with
  |true=>
   rw[cond_true,pairwise_cons];refine⟨fun z hz=>?_,insRev_sorted hS x ys h'.2⟩;rcases mem_cons.1 ((GJ lt x ys).mem_iff.1 hz)with rfl |hz
   ·cases hyx:lt y z with
    |false=>rfl
    |true=>have:=hS.trans _ _ _ hxy hyx;rw[hS.irrefl]at this;cases this
   ·exact h'.1 z hz
  |false=>
   rw[cond_false,pairwise_cons];refine⟨fun z hz=>?_,h⟩;rcases mem_cons.1 hz with rfl |hz
   ·exact hxy
   ·exact hS.ntrans _ _ _ hxy (h'.1 z hz)
theorem isort_sorted {α:Type} {lt:α->α->Bool} (hS:Go.Sort.SWO lt) (l:List α):(rD lt l).Pairwise fun x y=>lt y x=false:=by
 have gen:∀ (xs rs:List α),rs.Pairwise (fun a b=>lt a b=false)->(xs.foldl (fun rs x=>kr lt x rs) rs).Pairwise fun a b=>lt a b=false:=by
  intro xs
  induction xs with
  |nil=>intro rs h;exact h
  |cons x xs ih=>intro rs h;exact ih _ (insRev_sorted hS x rs h)
 unfold rD;rw[List.pairwise_reverse];exact gen l [] List.Pairwise.nil
theorem acZ (l:List Int):rE ltI l=rD ltI l:=
 Vr ((xK PU l).trans (Jz ltI l).symm) (DK PU l) (isort_sorted PU l)
theorem YO (n:Nat):∀ m,dU n m=dK cmp_Less_int (fun r=>r) aJ aK n m
 | 0=>rfl
 |m+1=>by
  show jT n (dU n m)=fU cmp_Less_int (fun r=>r) aJ aK n (dK cmp_Less_int (fun r=>r) aJ aK n m);rw[YO n m];generalize dK cmp_Less_int (fun r=>r) aJ aK n m=rc
  kernel_rfl
theorem xW {n:Nat} {l:List Int} (hl:l.length < 1099511627776) (hn:l.length < n):pF n l=some (rD ltI l):=by
 unfold pF lg;rw[kV (by omega),uH (by omega),YO];simp only[bind_some,aA,cond_true];rw[qc (lt:=ltI) PU (f:=ltI) (q:=fun r=>r) OQ (fun _ _=>rfl) abQ abR (by omega) hn hn,acZ];rfl
theorem Ad {n:Nat} {l:List Int} (hl:l.length < 1099511627776) (hn:l.length < n):qj n l=some ((),lV l):=by
 rw[<- YL];exact I5 (eq:=fun x y=>x==y) (ne:=fun x y=>x != y) (fun x y=>by simp[bne]) hl hn
theorem MW {l:List au} (h:l.length < 1099511627776):Ay l=some l:=uh (b:=32) (by omega) (by simp only[maxLen];omega)
theorem vw {l:List Int} (h:l.length < 1099511627776):kE l=some l:=uh (b:=8) (by omega) (by simp only[maxLen];omega)
theorem K9 {n:Nat} {l:List (List au)} (hf:l.flatten.length < 1099511627776) (hl:l.length < 1099511627776) (hn:l.length < n):xM n l=some l.flatten:=WS (au.mk 0 0 0 0) (b:=32) hf (by omega) hl hn
theorem MX {n:Nat} {a b:List au} (hl:a.length < 1099511627776) (hn:a.length < n):om n a b=some (decide (a=b)):=by
 have e:om n a b=PD n (fun x1 x2:au=>!((x1.x0==(x2.x0:Int))&&((x1.y0==(x2.y0:Int))&&((x1.x1==(x2.x1:Int))&&((x1.y1==(x2.y1:Int))&&true))))) a b:=by kernel_rfl
 rw[e];refine Ot (fun x y=>?_) hl hn;obtain⟨a,b,c,d⟩:=x;obtain⟨e,f,g,h⟩:=y;simp only[au.mk.injEq,Bool.and_true];rw[Bool.eq_iff_iff];simp
theorem Cj {n:Nat} {a b:List aF} (hl:a.length < 1099511627776) (hn:a.length < n):tH n a b=some (decide (a=b)):=by
 have e:tH n a b=PD n (fun x1 x2:aF=>!((x1.from_==(x2.from_:Int))&&((x1.to==(x2.to:Int))&&true))) a b:=by kernel_rfl
 rw[e];refine Ot (fun x y=>?_) hl hn;obtain⟨a,b⟩:=x;obtain⟨c,d⟩:=y;simp only[aF.mk.injEq,Bool.and_true];rw[Bool.eq_iff_iff];simp
abbrev ltS (a b:aF):Bool:=decide (a.from_ < b.from_)
theorem La:Go.Sort.SWO ltS where
 irrefl x:=by simp[ltS]
 trans x y z h1 h2:=by simp only[ltS,decide_eq_true_eq]at *;omega
 ntrans x y z h1 h2:=by simp only[ltS,decide_eq_false_iff_not]at *;omega
instance:Inhabited aF:=⟨⟨0,0⟩⟩
theorem ac0 (n:Nat) (rc:List aF->Int->Int->Int->((aF×aF×Unit)->Option Int)->Option (List aF)) (φ:(aF×aF×Unit)->Option Int) (l:List aF) (a b d:Int):fZ n rc l a b d φ=fU (fun x y=>φ (x,y,())) (fun r=>decide (r < 0)) aJ aK n (fun l a b d=>rc l a b d φ) l a b d:=by kernel_rfl
theorem Vs (n:Nat) (φ:(aF×aF×Unit)->Option Int):∀ m l a b d,bZ n m l a b d φ=dK (fun x y=>φ (x,y,())) (fun r=>decide (r < 0)) aJ aK n m l a b d
 | 0,l,a,b,d=>rfl
 |m+1,l,a,b,d=>by
  have e:(fun l a b d=>bZ n m l a b d φ)=dK (fun x y=>φ (x,y,())) (fun r=>decide (r < 0)) aJ aK n m:=by
   funext l a b d;exact Vs n φ m l a b d
  show fZ n (bZ n m) l a b d φ=fU (fun x y=>φ (x,y,())) (fun r=>decide (r < 0)) aJ aK n (dK (fun x y=>φ (x,y,())) (fun r=>decide (r < 0)) aJ aK n m) l a b d;rw[<- e];exact ac0 n (bZ n m) φ l a b d
theorem Im {n:Nat} {l:List aF} {φ:(aF×aF×Unit)->Option Int} (f:aF->aF->Int) (hφ:∀ x y,φ (x,y,())=some (f x y)) (hf:∀ x y,decide (f x y < 0)=ltS x y) (hl:l.length < 1099511627776) (hn:l.length < n):mH n l φ=some (rE ltS l):=by
 unfold mH kF;rw[kV (by omega),uH (by omega)];simp only[bind_some,aA,cond_true,Vs];rw[qc (lt:=ltS) La (f:=f) (q:=fun r=>decide (r < 0)) hφ hf abQ abR (by omega) hn hn];rfl
def mrg (out:List aF) (s:aF):List aF:=
 match out.getLast? with
 |some q=>bif decide (s.from_<=q.to)then out.dropLast++[⟨q.from_,max q.to s.to⟩]else out++[s]
 |none=>[s]
theorem R8 (out:List aF) (s:aF):(mrg out s).length<=out.length+1:=by
 unfold mrg;cases out.getLast? with
 |none=>simp
 |some q=>simp only;cases decide (s.from_<=q.to)<;>simp<;>omega
theorem aaC (o:List aF) (q s:aF):mrg (o++[q]) s=bif decide (s.from_<=q.to)then o++[⟨q.from_,max q.to s.to⟩]else o++[q]++[s]:=by simp[mrg]
abbrev OkS (s:aF):Prop:=s.from_ < s.to
def inS (l:List aF) (y:Int):Bool:=l.any fun s=>decide (s.from_<=y)&&decide (y < s.to)
def Can (l:List aF):Prop:=l.Pairwise (fun a b=>a.to < b.from_)∧∀ s∈l,OkS s
theorem Xb (l:List aF) (y:Int):inS l y=true↔∃ s∈l,s.from_<=y∧y < s.to:=by simp[inS]
theorem D5 (l m:List aF) (y:Int):inS (l++m) y=(inS l y || inS m y):=by simp[inS]
theorem H8 (y:Int):inS [] y=false:=rfl
theorem lZ (s:aF) (l:List aF) (y:Int):inS (s::l) y=((decide (s.from_<=y)&&decide (y < s.to)) || inS l y):=by simp[inS]
theorem YP {l m:List aF} (h:l.Perm m) (y:Int):inS l y=inS m y:=by
 rw[Bool.eq_iff_iff,Xb,Xb];exact⟨fun ⟨s,hs,h1⟩=>⟨s,h.mem_iff.1 hs,h1⟩,fun⟨s,hs,h1⟩=>⟨s,h.mem_iff.2 hs,h1⟩⟩
theorem abS:Can []:=⟨List.Pairwise.nil,by simp⟩
theorem aex {out:List aF} {s:aF} (hc:Can out) (hs:OkS s) (hb:∀ o∈out,o.from_<=s.from_):
 Can (mrg out s)∧(∀ o∈mrg out s,o.from_<=s.from_)∧∀ y,inS (mrg out s) y=(inS out y || inS [s] y):=by
 rcases List.eq_nil_or_concat out with rfl |⟨o,q,rfl⟩
 ·refine⟨⟨by simp[mrg],by simp[mrg];exact hs⟩,by simp[mrg],fun y=>by simp[mrg,inS]⟩
 ·rw[List.concat_eq_append]at*;obtain⟨h1,h2⟩:=hc;rw[pairwise_append]at h1;obtain⟨p1,_,p3⟩:=h1;have hq:OkS q:=h2 q (by simp);have hqs:q.from_<=s.from_:=hb q (by simp);rw[aaC];by_cases hj:s.from_<=q.to
  ·simp only[hj,decide_true,cond_true];refine⟨⟨?_,?_⟩,?_,?_⟩
   ·rw[pairwise_append];refine⟨p1,by simp,fun a ha b hb'=>?_⟩;rw[mem_singleton]at hb';subst hb';exact p3 a ha q (by simp)
   ·intro a ha;rcases mem_append.1 ha with ha |ha
    ·exact h2 a (by simp[ha])
    ·rw[mem_singleton]at ha;subst ha;show q.from_ < max q.to s.to;have:q.from_ < q.to:=hq;omega
   ·intro a ha;rcases mem_append.1 ha with ha |ha
    ·exact hb a (by simp[ha])
    ·rw[mem_singleton]at ha;subst ha;exact hqs
   ·intro y;rw[D5,D5,Bool.or_assoc];congr 1;simp only[lZ,H8,Bool.or_false];rw[Bool.eq_iff_iff];simp only[and_eq_true,Bool.or_eq_true,decide_eq_true_eq];have:q.from_ < q.to:=hq;have:s.from_ < s.to:=hs;omega
  ·simp only[hj,decide_false,cond_false];refine⟨⟨?_,?_⟩,?_,?_⟩
   ·rw[pairwise_append];refine⟨?_,by simp,fun a ha b hb'=>?_⟩
    ·rw[pairwise_append];exact⟨p1,by simp,p3⟩
    ·rw[mem_singleton]at hb';subst hb';rcases mem_append.1 ha with ha |ha
     ·have:=p3 a ha q (by simp);have:q.from_ < q.to:=hq;omega
     ·rw[mem_singleton]at ha;subst ha;omega
   ·intro a ha;rcases mem_append.1 ha with ha |ha
    ·exact h2 a ha
    ·rw[mem_singleton]at ha;subst ha;exact hs
   ·intro a ha;rcases mem_append.1 ha with ha |ha
    ·exact hb a ha
    ·rw[mem_singleton]at ha;subst ha;exact Int.le_refl _
   ·intro y;rw[D5]
theorem MZ:∀ (l out:List aF),Can out->(∀ s∈l,OkS s)->l.Pairwise (fun x y=>x.from_<=y.from_)->(∀ o∈out,∀ s∈l,o.from_<=s.from_)->Can (l.foldl mrg out)∧∀ y,inS (l.foldl mrg out) y=(inS out y || inS l y)
 |[],out,hc,_,_,_=>⟨hc,fun y=>by simp[H8]⟩
 |s::l,out,hc,hv,hp,hb=>by
  rw[pairwise_cons]at hp;obtain⟨m1,m2,m3⟩:=aex hc (hv s (by simp)) (fun o ho=>hb o ho s (by simp));obtain⟨f1,f2⟩:=MZ l (mrg out s) m1 (fun t ht=>hv t (by simp[ht])) hp.2 (fun o ho t ht=>Int.le_trans (m2 o ho) (hp.1 t ht));refine⟨f1,fun y=>?_⟩;rw[foldl_cons,f2,m3,Bool.or_assoc,<- D5];rfl
theorem YQ {a:aF} {l:List aF} (h:Can (a::l)):Can l:=⟨(pairwise_cons.1 h.1).2,fun s hs=>h.2 s (by simp[hs])⟩
theorem H9 {a:aF} {l:List aF} (h:Can (a::l)) {y:Int} (hy:inS l y=true):a.to < y:=by
 obtain⟨s,hs,h1,_⟩:=(Xb _ _).1 hy;have:=(pairwise_cons.1 h.1).1 s hs;omega
theorem Vt {a:aF} {l:List aF} (h:Can (a::l)) {y:Int} (hy:inS (a::l) y=true):a.from_<=y:=by
 rw[lZ,Bool.or_eq_true]at hy;rcases hy with hy |hy
 ·simp only[and_eq_true,decide_eq_true_eq]at hy;exact hy.1
 ·have:=H9 h hy;have:a.from_ < a.to:=h.2 a (by simp);omega
theorem R9:∀ {l m:List aF},Can l->Can m->(∀ y,inS l y=inS m y)->l=m
 |[],[],_,_,_=>rfl
 |[],b::m,_,hm,h=>by
  have:=h b.from_;have hb:b.from_ < b.to:=hm.2 b (by simp);rw[H8,lZ]at this;simp[hb]at this
 |a::l,[],hl,_,h=>by
  have:=h a.from_;have ha:a.from_ < a.to:=hl.2 a (by simp);rw[H8,lZ]at this;simp[ha]at this
 |a::l,b::m,hl,hm,h=>by
  have ha:a.from_ < a.to:=hl.2 a (by simp);have hb:b.from_ < b.to:=hm.2 b (by simp);have ina:inS (a::l) a.from_=true:=by rw[lZ];simp[ha]
  have inb':inS (b::m) b.from_=true:=by rw[lZ];simp[hb]
  have e1:a.from_=b.from_:=by
   have h1:=Vt hm (by rw[<- h];exact ina);have h2:=Vt hl (by rw[h];exact inb');omega
  have nl:∀ (c:aF) (k:List aF),Can (c::k)->inS (c::k) c.to=false:=by
   intro c k hk;cases hc:inS (c::k) c.to with
   |false=>rfl
   |true=>
    rw[lZ,Bool.or_eq_true]at hc;rcases hc with hc |hc
    ·simp at hc
    ·have:=H9 hk hc;omega
  have e2:a.to=b.to:=by
   rcases Int.lt_trichotomy a.to b.to with hlt |he |hlt
   ·have h1:=nl a l hl;rw[h,lZ]at h1;simp only[Bool.or_eq_false_iff,Bool.and_eq_false_iff,decide_eq_false_iff_not]at h1;omega
   ·exact he
   ·have h1:=nl b m hm;rw[<- h,lZ]at h1;simp only[Bool.or_eq_false_iff,Bool.and_eq_false_iff,decide_eq_false_iff_not]at h1;omega
  have e:a=b:=by cases a;cases b;simp only at e1 e2;rw[e1,e2]
  subst e;rw[R9 (YQ hl) (YQ hm) fun y=>?_];have hy:=h y;rw[lZ,lZ]at hy;cases h1:inS l y with
  |true=>
   have:=H9 hl h1;have z:(decide (a.from_<=y)&&decide (y < a.to))=false:=(by rw[Bool.and_eq_false_iff,decide_eq_false_iff_not,decide_eq_false_iff_not];omega);rw[z,h1,Bool.false_or,Bool.false_or]at hy;rw[<- hy]
  |false=>
   cases h2:inS m y with
   |false=>rfl
   |true=>
    have:=H9 hm h2;have z:(decide (a.from_<=y)&&decide (y < a.to))=false:=(by rw[Bool.and_eq_false_iff,decide_eq_false_iff_not,decide_eq_false_iff_not];omega);rw[z,h1,h2]at hy;simp at hy
def aaD (l:List aF):List aF:=(rD ltS l).foldl mrg []
theorem aey {l:List aF} (h:l.Pairwise fun x y=>ltS y x=false):l.Pairwise fun x y=>x.from_<=y.from_:=
 h.imp fun {x y} hxy=>by simp only[ltS,decide_eq_false_iff_not]at hxy;omega
theorem ac1 {l:List aF} (h:∀ s∈l,OkS s):Can (aaD l)∧∀ y,inS (aaD l) y=inS l y:=by
 have hp:=Jz ltS l;obtain⟨h1,h2⟩:=MZ (rD ltS l) [] abS (fun s hs=>h s (hp.mem_iff.1 hs)) (aey (isort_sorted La l)) (by simp);exact⟨h1,fun y=>by rw[aaD,h2,H8,Bool.false_or,YP hp]⟩
theorem ac2 {l:List aF} (h:∀ s∈l,OkS s):(rE ltS l).foldl mrg []=aaD l:=by
 have hp:=xK La l;obtain⟨h1,h2⟩:=MZ (rE ltS l) [] abS (fun s hs=>h s (hp.mem_iff.1 hs)) (aey (DK La l)) (by simp);obtain⟨h3,h4⟩:=ac1 h;exact R9 h1 h3 fun y=>by rw[h2,H8,Bool.false_or,YP hp,h4]
theorem YR (l:List aF):(aaD l).length<=l.length:=by
 have:∀ (ys out:List aF),(ys.foldl mrg out).length<=out.length+ys.length:=by
  intro ys
  induction ys with
  |nil=>intro out;simp
  |cons y ys ih=>
   intro out;simp only[foldl_cons,length_cons];have:=ih (mrg out y);have:=R8 out y;omega
 have h:=this (rD ltS l) [];rw[jo]at h;simpa[aaD]using h
abbrev OkR (r:au):Bool:=decide (0<=r.x0)&&(decide (r.x0 < r.x1)&&(decide (r.x1<=1048576)&&(decide (0<=r.y0)&&(decide (r.y0 < r.y1)&&decide (r.y1<=1048576)))))
theorem aez (a b:Bool):(bif a then some b else some false)=some (a&&b):=by cases a<;>rfl
theorem kK (r:au):qi r=some (OkR r):=by simp only[qi,aez]
def oP (l:List au) (x:Int):List aF:=(l.filter fun r=>decide (r.x0<=x)&&decide (x < r.x1)).map fun r=>⟨r.y0,r.y1⟩
def wz (l:List au) (x:Int):List aF:=aaD (oP l x)
theorem GK (l:List au) (x:Int):(oP l x).length<=l.length:=by simp only[oP,length_map];exact List.length_filter_le _ _
theorem Sb (l:List au) (x:Int):(wz l x).length<=l.length:=
 Nat.le_trans (YR _) (GK l x)
theorem ahu {r:au} (h:OkR r=true):r.y0 < r.y1:=by simp only[OkR,and_eq_true,decide_eq_true_eq]at h;omega
theorem aaE {l:List au} (h:∀ r∈l,OkR r=true) (x:Int):∀ s∈oP l x,OkS s:=by
 intro s hs;simp only[oP,List.mem_map,List.mem_filter]at hs;obtain⟨r,⟨hr,_⟩,rfl⟩:=hs;exact ahu (h r hr)
theorem M0 {l:List au} {x:Int} (hl:l.length < 1099511627776) {n:Nat} (hn:l.length < n):iter (ql l x) n ((0:Int),([]:List aF))=some (oP l x):=by
 have:=ko (l:=l) (step:=ql l x) (fun i (s:List aF)=>((i:Int),s)) (fun r s=>bif decide (r.x0<=x)&&decide (x < r.x1)then s++[⟨r.y0,r.y1⟩]else s) (fun s=>s) (fun i s=>s.length<=i)
  (fun i hi s hs=>?_) (fun s hs=>by simp[ql]) n hn [] (Nat.le_refl _)
 ·rw[show ((0:Nat):Int)=0 from rfl]at this;rw[this];congr 1;have gen:∀ (ys:List au) (s:List aF),ys.foldl (fun s r=>bif decide (r.x0<=x)&&decide (x < r.x1)then s++[⟨r.y0,r.y1⟩]else s) s=s++oP ys x:=by
   intro ys
   induction ys with
   |nil=>intro s;simp[oP]
   |cons y ys ih=>
    intro s;simp only[foldl_cons,ih];cases h:(decide (y.x0<=x)&&decide (x < y.x1))with
    |true=>simp[oP,h]
    |false=>simp[oP,h]
  simpa using gen l []
 ·have hi':decide (((i:Nat):Int) < (l.length:Int))=true:=by simpa using hi
  have ap:bC s.length s.length (sub ([(aF.mk l[i].y0 l[i].y1)]:List aF) 0 1).length 1 16=true:=bR (n:=1) (by omega) (by simp only[maxLen];omega);simp only[ql,hi',cond_true,bL hi,bind_some,aez];cases h:(decide (l[i].x0<=x)&&decide (x < l[i].x1))with
  |true=>
   simp only[cond_true,ap,dY,aA,bind_some];refine⟨?_,by simp;omega⟩;rw[ay (by omega)];rfl
  |false=>
   simp only[cond_false,aA,cond_true,bind_some];exact⟨by rw[ay (by omega)],by omega⟩
theorem M4 {n:Nat} (w1 r2:List aF) (hw:w1.length=r2.length) (hl:r2.length < 1099511627776) (hn:r2.length < n):iter (qm w1 r2) n ((0:Int),([]:List aF))=some (r2.foldl mrg []):=by
 have:=ko (l:=r2) (step:=qm w1 r2) (fun i (s:List aF)=>((i:Int),s)) (fun r s=>mrg s r) (fun s=>s) (fun i s=>s.length<=i)
  (fun i hi s hs=>?_) (fun s hs=>by simp[qm,hw]) n hn [] (Nat.le_refl _)
 ·rw[show ((0:Nat):Int)=0 from rfl]at this;exact this
 ·refine⟨?_,by have:=R8 s r2[i];omega⟩;have hi':decide (((i:Nat):Int) < ((w1.length:Nat):Int))=true:=by simp;omega
  have ib:inb (i:Int) w1.length=true:=dM (by omega);have ap:bC s.length s.length (sub ([r2[i]]:List aF) 0 1).length 1 16=true:=bR (n:=1) (by omega) (by simp only[maxLen];omega);simp only[qm,hi',cond_true,ib,fV hi,bind_some];rcases List.eq_nil_or_concat s with rfl |⟨s0,q,hsq⟩
  ·have d0:decide (((([]:List aF).length:Nat):Int)>0)=false:=(by simp);simp only[d0,cond_false,bind_some,ap,cond_true,dY,aA];rw[ay (by omega)];rfl
  ·rw[List.concat_eq_append]at hsq;subst hsq;have d0:decide (((((s0++[q]).length:Nat):Int))>0)=true:=(by simp<;>omega);have lenq:(s0++[q]).length=s0.length+1:=(by simp);have wp:i64.wrap ((((s0++[q]).length:Nat):Int) - 1)=((s0.length:Nat):Int):=(by rw[mg (by simp) (by omega),lenq];rfl);have ib2:inb ((s0.length:Nat):Int) (s0++[q]).length=true:=dM (by omega);have g:at? (s0++[q]) (((0:Nat):Int)+((s0.length:Nat):Int))=some q:=(by rw[DF];simp);have z:(((0:Nat):Int)+((s0.length:Nat):Int)).toNat=s0.length:=(by simp);have st:(s0++[q]).set s0.length (aF.mk q.from_ (max q.to r2[i].to))=s0++[⟨q.from_,max q.to r2[i].to⟩]:=(by simp);have m:mrg (s0++[q]) r2[i]=bif decide (r2[i].from_<=q.to)then s0++[⟨q.from_,max q.to r2[i].to⟩]else s0++[q]++[r2[i]]:=(by simp[mrg]);simp only[d0,cond_true,wp,ib2,g,bind_some,m,z,st];cases decide (r2[i].from_<=q.to)with
   |true=>
    have e:eqL (s0++[q]).length (s0++[(⟨q.from_,max q.to r2[i].to⟩:aF)]).length=true:=(by simp);simp only[cond_true,e,bind_some,aA];rw[ay (by omega)]
   |false=>
    simp only[cond_false,ap,cond_true,dY,aA,bind_some];rw[ay (by omega)];rfl
theorem Xc {n:Nat} {l:List au} {x:Int} (hv:∀ r∈l,OkR r=true) (hl:l.length < 1099511627776) (hn:l.length < n):HZ n l x=some (wz l x):=by
 have h1:=GK l x;have h2:(rE ltS (oP l x)).length=(oP l x).length:=DL La _;unfold HZ;simp only[length_nil,aA,cond_true,M0 (x:=x) (l:=l) (by omega) (n:=n) (by omega),bind_some];rw[Im (fun a b=>if a.from_ < b.from_ then -1 else if b.from_ < a.from_ then 1 else 0) (fun a b=>by show wm a b=_;unfold wm;rw[xV];rfl) (fun a b=>by
  by_cases h1:a.from_ < b.from_
  ·simp[h1]
  ·by_cases h2:b.from_ < a.from_<;>simp[h1,h2]) (by omega) (by omega)]
 simp only[bind_some];rw[M4 _ _ h2.symm (by omega) (by omega)];simp only[bind_some,bF,aA,cond_true];rw[ac2 (aaE hv x)];rfl
def jb (l:List au):List Int:=aho (l.flatMap fun r=>[r.x0,r.x1])
def JA {α:Type} (f:Int->Int->α):List Int->List α
 |a::b::l=>f a b::JA f (b::l)
 |_=>[]
def dF (l:List au):List dL:=JA (fun a b=>⟨a,b,wz l a⟩) (jb l)
theorem D6 {α:Type} (f:Int->Int->α):∀ (l:List Int),(JA f l).length=l.length - 1∧∀ i (h:i+1 < l.length) (h':i < (JA f l).length),(JA f l)[i]=f l[i] l[i+1]
 |[]=>⟨rfl,fun i h=>by simp at h⟩
 |[a]=>⟨rfl,fun i h=>by simp at h⟩
 |a::b::l=>by
  obtain⟨h1,h2⟩:=D6 f (b::l);refine⟨by simp only[JA,length_cons,h1];simp,fun i h h'=>?_⟩;cases i with
  |zero=>rfl
  |succ i=>
   simp only[JA,List.getElem_cons_succ];exact h2 i (by simpa using h) _
theorem uI (l:List au):(l.flatMap fun r=>[r.x0,r.x1]).length=2*l.length:=by
 induction l with
 |nil=>rfl
 |cons x l ih=>simp only[List.flatMap_cons,length_append,ih,length_cons,length_nil];omega
theorem ED (l:List Int):(lV l).length<=l.length:=by
 match l with
 |[]=>simp[lV]
 |[x]=>simp[lV]
 |x::y::l=>
  have:=ED (y::l);simp only[lV];cases x==y<;>simp at* <;>omega
theorem I6 (l:List au):(jb l).length<=2*l.length:=by
 have h:=ED (rD (fun a b=>decide (a < b)) (l.flatMap fun r=>[r.x0,r.x1]));rw[jo,uI]at h;exact h
theorem M5 {n:Nat} {l:List au} (hl:l.length < 10995116277) (hn:l.length < n):iter (qo l) n ((0:Int),([]:List Int))=some (l.flatMap fun r=>[r.x0,r.x1]):=by
 have:=ko (l:=l) (step:=qo l) (fun i (s:List Int)=>((i:Int),s)) (fun r s=>s++[r.x0,r.x1]) (fun s=>s) (fun i s=>s.length<=2*i)
  (fun i hi s hs=>?_) (fun s hs=>by simp[qo]) n hn [] (Nat.le_refl _)
 ·rw[show ((0:Nat):Int)=0 from rfl]at this;rw[this];have gen:∀ (ys:List au) (s:List Int),ys.foldl (fun s r=>s++[r.x0,r.x1]) s=s++ys.flatMap fun r=>[r.x0,r.x1]:=by
   intro ys
   induction ys with
   |nil=>intro s;simp
   |cons y ys ih=>intro s;simp[ih]
  congr 1;simpa using gen l []
 ·have hi':decide (((i:Nat):Int) < ((l.length:Nat):Int))=true:=by simpa using hi
  have ap:bC s.length s.length (sub ([l[i].x0,l[i].x1]:List Int) 0 2).length 2 8=true:=bR (n:=2) (by omega) (by simp only[maxLen];omega);simp only[qo,hi',cond_true,dM hi,fV hi,bind_some,ap,dY,aA];refine⟨?_,by simp;omega⟩;rw[ay (by omega)];rfl
theorem Xd {n:Nat} {ls:List (List au)} (hv:∀ r∈ls.flatten,OkR r=true) (hl:ls.flatten.length < 10995116277) (hls:ls.length < 1099511627776) (hn:2*ls.flatten.length < n) (hn2:ls.length < n):H6 n ls=some (dF ls.flatten):=by
 unfold H6;rw[K9 (by omega) hls hn2];generalize ls.flatten=l at*;have he:=I6 l;simp only[bind_some,length_nil,aA,cond_true,M5 (l:=l) (n:=n) (by omega) (by omega)];rw[xW (by rw[uI];omega) (by rw[uI];omega)];simp only[bind_some,jo,aA,cond_true];rw[Ad (by rw[jo,uI];omega) (by rw[jo,uI];omega)];simp only[bind_some];have hE:lV (rD ltI (l.flatMap fun r=>[r.x0,r.x1]))=jb l:=rfl;rw[hE];obtain⟨p1,p2⟩:=D6 (fun a b=>(⟨a,b,wz l a⟩:dL)) (jb l);have key:iter (qp n l ((),jb l)) n ((1:Int),([]:List dL))=some (dF l):=by
  have:=mh (step:=qp n l ((),jb l)) (fun i=>(((i+1:Nat):Int),(dF l).take i)) (dF l).length (dF l) (fun i hi=>?_) ?_ n (by unfold dF;omega)
  ·simpa using this
  ·have hi2:i+1 < (jb l).length:=(by unfold dF at hi;omega);have d:decide (((i+1:Nat):Int) < (((jb l).length:Nat):Int))=true:=(by simp;omega);have wp:i64.wrap (((i+1:Nat):Int) - 1)=((i:Nat):Int):=(by rw[mg (by omega) (by omega)];rfl);have ap:bC ((dF l).take i).length ((dF l).take i).length (sub ([(dL.mk ((jb l)[i]'(by omega)) (jb l)[i+1] (wz l ((jb l)[i]'(by omega))))]:List dL) 0 1).length 1 40=true:=by
    refine bR (n:=1) ?_ ?_
    ·rw[length_take];unfold dF;omega
    ·rw[length_take];unfold dF;simp only[maxLen];omega
   have tk:(dF l).take (i+1)=(dF l).take i++[⟨(jb l)[i]'(by omega),(jb l)[i+1],wz l ((jb l)[i]'(by omega))⟩]:=by
    rw[take_succ_eq_append_getElem hi];congr 2;exact p2 i hi2 hi
   simp only[qp,d,cond_true,wp,dM (show i < (jb l).length by omega),fV (show i < (jb l).length by omega),bind_some,dM hi2,fV hi2,bF,aA,Xc (l:=l) (n:=n) hv (by omega) (by omega),ap,dY];rw[ay (by omega),tk];rfl
  ·have d:decide ((((dF l).length+1:Nat):Int) < (((jb l).length:Nat):Int))=false:=(by unfold dF;simp;omega);simp only[qp,d,cond_false,List.take_length,aA,cond_true]
 rw[key];simp only[bind_some,bF,aA,cond_true]
def D7 (x0 x1:Int) (c:List aF):List au:=c.map fun q=>⟨x0,q.from_,x1,q.to⟩
def aaF (x0 x1:Int) (c:List aF):List dL->List au
 |[]=>D7 x0 x1 c
 |s::l=>if s.column=c then aaF x0 s.x1 c l else D7 x0 x1 c++aaF s.x0 s.x1 s.column l
def sj:List dL->List au
 |[]=>[]
 |s::l=>aaF s.x0 s.x1 s.column l
theorem Vu (x0:Int) (c:List aF):∀ (l:List dL) (x1:Int) (k:Nat) (hk:k<=l.length),(∀ j (hj:j < k),(l[j]'(by omega)).column=c)->(∀ h:k < l.length,l[k].column≠c)->
 aaF x0 x1 c l=D7 x0 (if h:0 < k then (l[k - 1]'(by omega)).x1 else x1) c++sj (l.drop k)
 |l,x1,0,_,_,h2=>by
  cases l with
  |nil=>simp[aaF,sj]
  |cons s l=>
   have:=h2 (by simp);simp only[List.getElem_cons_zero]at this;simp[aaF,sj,this]
 |[],x1,k+1,hk,_,_=>by simp at hk
 |s::l,x1,k+1,hk,h1,h2=>by
  have e0:=h1 0 (by omega);simp only[List.getElem_cons_zero]at e0;simp only[aaF,e0,if_true];rw[Vu x0 c l s.x1 k (by simpa using hk) (fun j hj=>by have:=h1 (j+1) (by omega);simpa using this) (fun h=>by have:=h2 (by simpa using h);simpa using this)];simp only[List.drop_succ_cons];congr 2;by_cases hk0:0 < k
  ·simp only[hk0,dite_true,Nat.zero_lt_succ,Nat.add_sub_cancel];obtain⟨m,rfl⟩:∃ m,k=m+1:=⟨k - 1,by omega⟩;simp
  ·have:k=0:=(by omega);subst this;simp
theorem OT {n:Nat} {l:List dL} {i k:Nat} (hi:i < l.length) (hk1:0 < k) (hk:k<=l.length) (hl:l.length < 10995116277) (x3:dL) (out:List au) (ho:out.length < 1099511627776) (hc:x3.column.length < 1099511627776) (hn:x3.column.length < n):
 iter (uw l (i:Int) (k:Int) x3) n ((0:Int),out)=some (out++D7 l[i].x0 (l[k - 1]'(by omega)).x1 x3.column):=by
 have:=ko (l:=x3.column) (step:=uw l (i:Int) (k:Int) x3) (fun j (s:List au)=>((j:Int),s)) (fun q s=>s++[⟨l[i].x0,q.from_,(l[k - 1]'(by omega)).x1,q.to⟩]) (fun s=>s) (fun j s=>s.length<=out.length+j)
  (fun j hj s hs=>?_) (fun s hs=>by simp[uw]) n hn out (Nat.le_refl _)
 ·rw[show ((0:Nat):Int)=0 from rfl]at this;rw[this];have gen:∀ (ys:List aF) (s:List au),ys.foldl (fun s q=>s++[⟨l[i].x0,q.from_,(l[k - 1]'(by omega)).x1,q.to⟩]) s=s++D7 l[i].x0 (l[k - 1]'(by omega)).x1 ys:=by
   intro ys
   induction ys with
   |nil=>intro s;simp[D7]
   |cons y ys ih=>intro s;simp only[foldl_cons,ih];simp[D7]
  rw[gen]
 ·have hj':decide (((j:Nat):Int) < (x3.column.length:Int))=true:=by simpa using hj
  have wp:i64.wrap ((k:Int) - 1)=((k - 1:Nat):Int):=mg hk1 (by omega);have ap:bC s.length s.length (sub ([(au.mk l[i].x0 (x3.column[j]).from_ (l[k - 1]'(by omega)).x1 (x3.column[j]).to)]:List au) 0 1).length 1 32=true:=bR (n:=1) (by omega) (by simp only[maxLen];omega);simp only[uw,hj',cond_true,bL hj,bL hi,wp,bL (show k - 1 < l.length by omega),bind_some,ap,dY,aA];refine⟨?_,by simp;omega⟩;rw[ay (by omega)];rfl
theorem YS {n:Nat} {l:List dL} {b:Nat} (hb:b<=100000) (hl:l.length<=100000) (hc:∀ s∈l,s.column.length<=b) (hn:b < n) (hn2:l.length < n):K6 n l=some (sj l):=by
 unfold K6;simp only[length_nil,aA,cond_true];have main:∀ (m i:Nat) (out:List au) (k:Nat),i+m=l.length->m < k->out.length<=i*b->iter (uy n l) k ((i:Int),out)=some (out++sj (l.drop i)):=by
  intro m
  induction m using Nat.strongRecOn with
  |ind m ih=>
   intro i out k him hk ho;obtain⟨k,rfl⟩:∃ j,k=j+1:=⟨k - 1,by omega⟩;by_cases hm:m=0
   ·subst hm;have:i=l.length:=(by omega);subst this;refine aQ ?_;simp[uy,sj]
   ·have hi:i < l.length:=(by omega);have di:decide (((i:Nat):Int) < (l.length:Int))=true:=(by simpa using hi);obtain⟨q,hq1,hq2,hq3,hq4⟩:∃ q,i < q∧q<=l.length∧(∀ j,i < j->j < q->∀ h:j < l.length,l[j].column=l[i].column)∧(∀ h:q < l.length,l[q].column≠l[i].column):=by
     rcases I4 (fun j=>if h:j < l.length then decide (l[j].column≠l[i].column)else false) (i+1) l.length with ⟨q,h1,h2,h3,h4⟩ |h
     ·simp only[h2,dite_true,decide_eq_true_eq]at h3;refine⟨q,by omega,by omega,fun j hj1 hj2 hj=>?_,fun _=>h3⟩;have:=h4 j (by omega) hj2;simp only[hj,dite_true,decide_eq_false_iff_not,ne_eq,Decidable.not_not]at this;exact this
     ·refine⟨l.length,hi,Nat.le_refl _,fun j hj1 hj2 hj=>?_,fun h=>by omega⟩;have:=h j (by omega) hj;simp only[hj,dite_true,decide_eq_false_iff_not,ne_eq,Decidable.not_not]at this;exact this
    have cl:∀ j (hj:j < l.length),l[j].column.length<=b:=fun j hj=>hc _ (getElem_mem hj);have r2:iter (pG n l (i:Int)) n (i64.wrap ((i:Int)+1))=some (q:Int):=by
     rw[ay (by omega)];have:=mh (step:=pG n l (i:Int)) (fun j=>((i+1+j:Nat):Int)) (q - (i+1)) (q:Int) (fun j hj=>?_) ?_ n (by omega)
     ·simpa using this
     ·have hjl:i+1+j < l.length:=(by omega);have dj:decide (((i+1+j:Nat):Int) < (l.length:Int))=true:=(by simp;omega);have hcc:=cl (i+1+j) hjl;simp only[pG,dj,cond_true,bL hjl,bL hi,bind_some];rw[Cj (by omega) (by omega),hq3 (i+1+j) (by omega) (by omega) hjl];simp only[decide_true,bind_some,cond_true];rw[ay (by omega)];rfl
     ·rw[show i+1+(q - (i+1))=q by omega];by_cases hql:q < l.length
      ·have dj:decide (((q:Nat):Int) < (l.length:Int))=true:=(by simpa using hql);have hcc:=cl q hql;simp only[pG,dj,cond_true,bL hql,bL hi,bind_some];rw[Cj (by omega) (by omega)];simp[hq4 hql]
      ·have dj:decide (((q:Nat):Int) < (l.length:Int))=false:=(by simp;omega);simp only[pG,dj,cond_false,bind_some]
    have ob:i*b<=100000*100000:=Nat.mul_le_mul (by omega) hb;have hci:=cl i hi;have r3:=OT (n:=n) hi (show 0 < q by omega) hq2 (by omega) l[i] out (by omega) (by omega) (by omega);have step:uy n l ((i:Int),out)=some (.inl ((q:Int),out++D7 l[i].x0 (l[q - 1]'(by omega)).x1 l[i].column)):=(by simp only[uy,di,cond_true,r2,bL hi,bind_some,aA,r3]);rw[bI step,ih (l.length - q) (by omega) q _ k (by omega) (by omega) (by
     rw[length_append,D7,length_map];have:(i+1)*b<=q*b:=Nat.mul_le_mul_right _ (by omega);rw[Nat.add_mul]at this;omega)]
    rw[List.append_assoc];congr 2
    conv=>rhs;rw[List.drop_eq_getElem_cons hi]
    simp only[sj];rw[Vu l[i].x0 l[i].column (l.drop (i+1)) l[i].x1 (q - (i+1)) (by rw[List.length_drop];omega) (fun j hj=>by
     rw[getElem_drop];exact hq3 _ (by omega) (by omega) (by omega)) (fun h=>by
     rw[List.length_drop]at h;rw[getElem_drop];have:=hq4 (by omega);have hqq:i+1+(q - (i+1))=q:=(by omega);simp only[hqq];exact this)]
    rw[List.drop_drop,show i+1+(q - (i+1))=q by omega];congr 2;by_cases h0:0 < q - (i+1)
    ·simp only[h0,dite_true,getElem_drop];congr 2;omega
    ·simp only[h0,dite_false];have:q - 1=i:=(by omega);congr 2
 have:=main l.length 0 [] n (by omega) (by omega) (by simp);simp only[Int.natCast_zero,nil_append,List.drop_zero]at this;rw[this];simp
def ofL (l:List au):List au×Int:=
 if l.all OkR then (if l.length>400 then ([],6)else if (sj (dF l)).length>200 then ([],6)else (sj (dF l),0))else ([],1)
def rightL (l:List au):Bool:=decide ((ofL l).2=0)&&decide ((ofL l).1=l)
theorem YT {l:List au} {s:dL} (h:s∈dF l):s.column.length<=l.length:=by
 obtain⟨i,hi,rfl⟩:=List.getElem_of_mem h;obtain⟨p1,p2⟩:=D6 (fun a b=>(⟨a,b,wz l a⟩:dL)) (jb l);have:(dF l)[i]=⟨(jb l)[i]'(by unfold dF at hi;omega),(jb l)[i+1]'(by unfold dF at hi;omega),wz l ((jb l)[i]'(by unfold dF at hi;omega))⟩:=p2 i (by unfold dF at hi;omega) hi;rw[this];exact Sb l _
theorem Sc (l:List au):(dF l).length<=2*l.length:=by
 obtain⟨p1,_⟩:=D6 (fun a b=>(⟨a,b,wz l a⟩:dL)) (jb l);have:=I6 l;unfold dF;omega
theorem aeA {n:Nat} {l:List au} (hl:l.length < 1099511627776) (hl2:l.length < n) (hn:1000<=n):abO n l=some (ofL l):=by
 unfold abO;have h1:=kT (l:=l) (step:=K7 l) (fun i=>(i:Int)) (fun r=>!OkR r) () (fun _=>(([]:List au),(1:Int))) (fun i hi=>?_) ?_ n (by omega)
 ·rw[show ((0:Nat):Int)=0 from rfl]at h1;rw[h1];have h2:=mq (fun r=>!OkR r) l;cases hf:lu (fun r=>!OkR r) l with
  |some i=>
   rw[hf]at h2;have:l.all OkR=false:=by
    rw[<- Bool.not_eq_true,all_eq_true];intro hall;have h3:=h2.symm;simp only[Option.isSome_some,any_eq_true]at h3;obtain⟨x,hx,hx2⟩:=h3;rw[hall x hx]at hx2;cases hx2
   simp[ofL,this]
  |none=>
   rw[hf]at h2;have:l.all OkR=true:=by
    rw[all_eq_true];intro x hx;cases h:OkR x with
    |true=>rfl
    |false=>
     have:l.any (fun r=>!OkR r)=true:=any_eq_true.2 ⟨x,hx,by rw[h];rfl⟩;rw[this]at h2;cases h2
   have hv:∀ r∈l,OkR r=true:=all_eq_true.1 this;by_cases h400:l.length>400
   ·have d4:decide ((l.length:Int)>400)=true:=(by simp;omega);simp only[fQ,d4,cond_true,ofL,this,if_true,if_pos h400]
   have d4:decide ((l.length:Int)>400)=false:=(by simp;omega);have ls:=Sc l;simp only[fQ,d4,cond_false];have fl:[l].flatten=l:=(by simp);rw[show (sub ([l]:List (List au)) 0 1)=[l]from rfl,Xd (ls:=[l]) (by rw[fl];exact hv) (by rw[fl];omega) (by simp) (by rw[fl];omega) (by simp;omega),fl];simp only[length_singleton,aA,cond_true,bind_some,bF];rw[YS (b:=400) (by omega) (by omega) (fun s hs=>Nat.le_trans (YT hs) (by omega)) (by omega) (by omega)];simp only[bind_some,bF,aA,cond_true,Jt,ofL,this,if_true,if_neg h400];by_cases h200:(sj (dF l)).length>200
   ·have:decide (((sj (dF l)).length:Int)>200)=true:=(by simp;omega);simp only[this,cond_true,bind_some,h200,if_true]
   ·have:decide (((sj (dF l)).length:Int)>200)=false:=(by simp;omega);simp only[this,cond_false,bind_some,h200,if_false]
 ·have hi':decide (((i:Nat):Int) < (l.length:Int))=true:=by simpa using hi
  simp only[K7,hi',cond_true,bL hi,bind_some,kK];cases OkR l[i]with
  |false=>rfl
  |true=>simp only[Bool.not_true,cond_false];rw[ay (by omega)]
 ·simp[K7]
theorem Ae {n:Nat} {l:List au} (hl:l.length < 1099511627776) (hl2:l.length < n) (hn:1000<=n):xP n l=some (rightL l):=by
 unfold xP rightL;rw[aeA hl hl2 hn];simp only[bind_some];by_cases h:(ofL l).2=0
 ·have e:((ofL l).2==0)=true:=by simp[h]
  have lo:(ofL l).1.length<=200:=by
   unfold ofL;split
   ·split
    ·simp
    ·split
     ·simp
     ·simp;omega
   ·simp
  by_cases hlen:(ofL l).1.length < n
  ·simp only[e,cond_true,h,decide_true,Bool.true_and];rw[MX (by omega) hlen];rfl
  ·have:(ofL l).1.length≠l.length:=(by omega);have hne:(ofL l).1≠l:=fun e=>this (by rw[e]);simp only[e,cond_true,h,decide_true,Bool.true_and];unfold om;have hb:(((ofL l).1.length:Int) != (l.length:Int))=true:=(by simp;omega);rw[hb];simp[hne]
 ·have e:((ofL l).2==0)=false:=by simp[h]
  simp[e,h]
theorem ac3 {α:Type} (c:Bool) (a b:α):(bif c then some a else some b)=some (bif c then a else b):=by cases c<;>rfl
theorem gB {i n:Nat} (h:i < n):decide ((i:Int) < ((n:Nat):Int))=true:=by simpa using h
theorem gH (n:Nat):decide ((n:Int) < ((n:Nat):Int))=false:=by simp
theorem afH {k b:Nat} (h:k*b<=140737488355328) (h2:k<=maxLen):Jd (k:Int) b=true:=by
 have e:((k:Int)).toNat=k:=by omega
 simp only[Jd,and_eq_true,decide_eq_true_eq,e];exact⟨⟨by omega,h⟩,h2⟩
def Runs:List dL->Prop
 |[]=>True
 |[s]=>s.x0 < s.x1∧s.column≠[]
 |s::t::l=>(s.x0 < s.x1∧s.column≠[])∧s.x1<=t.x0∧(s.x1=t.x0->s.column≠t.column)∧Runs (t::l)
theorem ac4 {a:List au} (h:rightL a=true):ofL a=(a,0):=by
 unfold rightL at h;rw[and_eq_true,decide_eq_true_eq,decide_eq_true_eq]at h;obtain⟨h1,h2⟩:=h;exact Prod.ext h2 h1
theorem Xe {a:List au} (h:rightL a=true):(∀ r∈a,OkR r=true)∧a.length<=200∧sj (dF a)=a:=by
 have h:=ac4 h;unfold ofL at h;split at h
 ·rename_i hall;split at h
  ·simp at h
  ·split at h
   ·simp at h
   ·rename_i h200;injection h with h _;refine⟨all_eq_true.1 hall,?_,h⟩;rw[<- h];omega
 ·simp at h
def ext (out:List aF) (p:aF):List aF:=
 match out.getLast? with
 |some q=>bif q.to==p.from_ then out.dropLast++[⟨q.from_,p.to⟩]else out++[p]
 |none=>[p]
def Ox (r:au):Int:=(r.x1 - r.x0)*(r.y1 - r.y0)
def Lb (l:List au):Int:=(l.map Ox).sum
theorem GL {r:au} (h:OkR r=true):0<=Ox r∧Ox r<=1099511627776:=by
 simp only[OkR,and_eq_true,decide_eq_true_eq]at h;unfold Ox;refine⟨Int.mul_nonneg (by omega) (by omega),?_⟩;have:=Int.mul_le_mul (show r.x1 - r.x0<=1048576 by omega) (show r.y1 - r.y0<=1048576 by omega) (by omega) (by omega);omega
theorem Sd:∀ {l:List au},(∀ r∈l,OkR r=true)->0<=Lb l∧Lb l<=1099511627776*(l.length:Int)
 |[],_=>by simp[Lb]
 |r::l,h=>by
  have h1:=GL (h r mem_cons_self);have h2:=Sd (l:=l) fun q hq=>h q (List.mem_cons_of_mem _ hq);have e:Lb (r::l)=Ox r+Lb l:=rfl;rw[e,length_cons]
  push_cast
  omega
theorem Vv:∀ (l:List Int) (x:Int),(l++[x]).sum=l.sum+x
 |[],x=>by simp
 |a::l,x=>by rw[List.cons_append,List.sum_cons,List.sum_cons,Vv l x];omega
theorem ac5 {r:au} (h:OkR r=true):DX r=some (Ox r):=by
 have hb:=GL h;unfold DX wT;rw[kK,h];simp only[bind_some,cond_true];simp only[OkR,and_eq_true,decide_eq_true_eq]at h;unfold Ox at*;rw[dz (x:=r.x1 - r.x0) (by omega) (by omega),dz (x:=r.y1 - r.y0) (by omega) (by omega),dz (by omega) (by omega)]
theorem aaG {n:Nat} {a:List au} (ha:a.length<=900) (hn:1000<=n):PL n a=some (bif rightL a then Lb a else 0):=by
 unfold PL;rw[Ae (by omega) (by omega) hn];simp only[bind_some];cases hr:rightL a with
 |false=>rfl
 |true=>
  have ok:=(Xe hr).1;have:=mh (step:=DY a) (fun i=>(Lb (a.take i),((i:Nat):Int))) a.length (Lb a) (fun i hi=>?_) ?_ n (by omega)
  ·have e:Lb (a.take 0)=0:=rfl;rw[e,show ((0:Nat):Int)=0 from rfl]at this;simp only[Bool.not_true,cond_false,cond_true,this,bind_some]
  ·have c:decide (((i:Nat):Int) < (a.length:Int))=true:=(by simpa using hi);have h1:=Sd (l:=a.take i) fun r hr=>ok r (List.mem_of_mem_take hr);rw[length_take]at h1;have h2:=GL (ok _ (getElem_mem hi));have e:Lb (a.take (i+1))=Lb (a.take i)+Ox a[i]:=(by rw[take_succ_eq_append_getElem hi];unfold Lb;rw[map_append];exact Vv _ _);simp only[DY,c,cond_true,bL hi,bind_some,ac5 (ok _ (getElem_mem hi))];rw[ay (by omega),dz (by omega) (by omega),e]
  ·simp[DY]
abbrev ltY (a b:au):Bool:=decide (a.y0 < b.y0)
theorem abT:Go.Sort.SWO ltY where
 irrefl x:=by simp[ltY]
 trans x y z h1 h2:=by simp only[ltY,decide_eq_true_eq]at *;omega
 ntrans x y z h1 h2:=by simp only[ltY,decide_eq_false_iff_not]at *;omega
instance:Inhabited au:=⟨au.mk 0 0 0 0⟩
theorem ac6 (n:Nat) (rc:List au->Int->Int->Int->((au×au×Unit)->Option Int)->Option (List au)) (φ:(au×au×Unit)->Option Int) (l:List au) (a b d:Int):gm n rc l a b d φ=fU (fun x y=>φ (x,y,())) (fun r=>decide (r < 0)) aJ aK n (fun l a b d=>rc l a b d φ) l a b d:=by kernel_rfl
theorem Vw (n:Nat) (φ:(au×au×Unit)->Option Int):∀ m l a b d,cu n m l a b d φ=dK (fun x y=>φ (x,y,())) (fun r=>decide (r < 0)) aJ aK n m l a b d
 | 0,l,a,b,d=>rfl
 |m+1,l,a,b,d=>by
  have e:(fun l a b d=>cu n m l a b d φ)=dK (fun x y=>φ (x,y,())) (fun r=>decide (r < 0)) aJ aK n m:=by
   funext l a b d;exact Vw n φ m l a b d
  show gm n (cu n m) l a b d φ=fU (fun x y=>φ (x,y,())) (fun r=>decide (r < 0)) aJ aK n (dK (fun x y=>φ (x,y,())) (fun r=>decide (r < 0)) aJ aK n m) l a b d;rw[<- e];exact ac6 n (cu n m) φ l a b d
theorem Io {n:Nat} {l:List au} {φ:(au×au×Unit)->Option Int} (f:au->au->Int) (hφ:∀ x y,φ (x,y,())=some (f x y)) (hf:∀ x y,decide (f x y < 0)=ltY x y) (hl:l.length < 1099511627776) (hn:l.length < n):mI n l φ=some (rE ltY l):=by
 unfold mI kH;rw[kV (by omega),uH (by omega)];simp only[bind_some,aA,cond_true,Vw];rw[qc (lt:=ltY) abT (f:=f) (q:=fun r=>decide (r < 0)) hφ hf abQ abR (by omega) hn hn];rfl
structure ahJ (R:List dL):Prop where
 runs:Runs R
 len:R.length<=200
 col:∀ s∈R,Can s.column∧∀ q∈s.column,0<=q.from_∧q.from_ < q.to∧q.to<=1048576
 xs:∀ s∈R,0<=s.x0∧s.x0 < s.x1∧s.x1<=1048576
 froms:(R.flatMap fun s=>s.column.map (·.from_)).length<=200
def aaH (a b:au):Int:=bif (!OkR a || !OkR b)then -1 else max (max 0 (i64.wrap ((max a.x0 b.x0) - (min a.x1 b.x1)))) (i64.wrap ((max a.y0 b.y0) - (min a.y1 b.y1)))
theorem aeB (a b:au):abP a b=some (aaH a b):=by
 unfold abP aaH;rw[kK,kK];simp only[bind_some];cases OkR a<;>cases OkR b<;>rfl
def Xf (a b:List au):Int×Bool:=
 bif (decide (a=[]) || (decide (b=[]) || (!rightL a || !rightL b)))then (0,false)else (a.foldl (fun m x=>b.foldl (fun m y=>min m (aaH x y)) m) 1048576,true)
theorem Uc {n:Nat} {b:List au} (hb:b.length < 1099511627776) (hn:b.length < n) (x:au) (m:Int):iter (Cf b x) n (m,(0:Int))=some (b.foldl (fun m y=>min m (aaH x y)) m):=by
 have:=rV (l:=b) (step:=Cf b x) (fun i (s:Int)=>(s,((i:Nat):Int))) (fun y m=>min m (aaH x y)) (fun s=>s) (fun i hi s=>?_) (fun s=>by simp[Cf]) n hn m
 ·exact this
 ·have hi':decide (((i:Nat):Int) < (b.length:Int))=true:=by simpa using hi
  simp only[Cf,hi',cond_true,bL hi,bind_some,aeB];rw[ay (by omega)]
theorem ac7 {n:Nat} {a b:List au} (ha:a.length<=900) (hb:b.length<=900) (hn:1000<=n):R6 n a b=some (Xf a b):=by
 unfold R6 Xf;have z:∀ l:List au,(((l.length:Int))==0)=decide (l=[]):=fun l=>by cases l<;>simp<;>omega
 rw[z a,z b,Ae (by omega) (by omega) hn,Ae (by omega) (by omega) hn];have loop:(iter (Cg n a b) n ((1048576:Int),(0:Int)))=some (a.foldl (fun m x=>b.foldl (fun m y=>min m (aaH x y)) m) 1048576):=by
  have:=rV (l:=a) (step:=Cg n a b) (fun i (s:Int)=>(s,((i:Nat):Int))) (fun x m=>b.foldl (fun m y=>min m (aaH x y)) m) (fun s=>s) (fun i hi s=>?_) (fun s=>by simp[Cg]) n (by omega) 1048576
  ·exact this
  ·have hi':decide (((i:Nat):Int) < (a.length:Int))=true:=(by simpa using hi);simp only[Cg,hi',cond_true,bL hi,bind_some];rw[Uc (by omega) (by omega),bind_some,ay (by omega)]
 simp only[bind_some,loop];cases decide (a=[])<;>cases decide (b=[])<;>cases rightL a<;>cases rightL b<;>rfl
def abU:iO:=iO.mk 0 0 [] []
def cO (land:List iO) (id:Int):iO×Bool:=match land.find? fun t=>t.id==id with
 |some t=>(t,true)
 |none=>(abU,false)
theorem aaI {α:Type} (p:α->Bool) (l:List α):(∃ (i:Nat) (h:i < l.length),lu p l=some i∧l.find? p=some l[i])∨(lu p l=none∧l.find? p=none):=by
 rcases DI p l with ⟨i,hi,h1,h2,h3⟩ |⟨h1,h2⟩
 ·refine .inl ⟨i,hi,h1,?_⟩;rw[List.find?_eq_some_iff_getElem];exact⟨h2,i,hi,rfl,fun j hj=>by simpa using h3 j hj⟩
 ·refine .inr ⟨h1,?_⟩;rw[List.find?_eq_none];intro x hx;rw[h2 x hx];simp
def JB (t:iO) (id d:Int) (u:iO):Bool:=(Xf t.area u.area).2&&(decide ((Xf t.area u.area).1<=d)&&(u.id != id))
def D8 (land:List iO) (t:iO) (id d:Int):List Int:=(land.filter fun u=>JB t id d u).map (·.id)
def Vx (land:List iO) (id d:Int):List Int:=
 bif (cO land id).2 then aho (D8 land (cO land id).1 id d)else []
theorem Sg {n:Nat} {land:List iO} (hl:land.length < 10995116277) (hn:land.length < n):iter (xR land) n ((0:Int),([]:List (List au)))=some (land.map (·.area)):=by
 have:=mh (step:=xR land) (fun i=>(((i:Nat):Int),(land.take i).map (·.area))) land.length (land.map (·.area)) (fun i hi=>?_) ?_ n hn
 ·simpa using this
 ·have hi':decide (((i:Nat):Int) < (land.length:Int))=true:=by simpa using hi
  have ap:bC ((land.take i).map (·.area)).length ((land.take i).map (·.area)).length (sub ([land[i].area]:List (List au)) 0 1).length 1 24=true:=by
   refine bR (n:=1) ?_ ?_
   ·rw[length_map,length_take];omega
   ·rw[length_map,length_take];simp only[maxLen];omega
  simp only[xR,hi',cond_true,bL hi,bind_some,ap,dY,aA];rw[ay (by omega),take_succ_eq_append_getElem hi,map_append];rfl
 ·simp[xR]
theorem Ud {land:List iO} (h:∀ t∈land,t.area.length<=900) (id:Int):(cO land id).1.area.length<=900:=by
 unfold cO;split
 ·rename_i t ht;exact h t (List.mem_of_find?_eq_some ht)
 ·simp[abU]
theorem Si {n:Nat} {land:List iO} {id d:Int} (h:∀ t∈land,t.area.length<=900) (hF:DT n land id=some (cO land id)) (hl:land.length<=100) (hn:1000<=n):K8 n land id d=some (Vx land id d):=by
 unfold K8 Vx;rw[hF];simp only[bind_some];cases hf:(cO land id).2 with
 |false=>rfl
 |true=>
  have ht:=Ud h id;simp only[Bool.not_true,cond_false,length_nil,aA,cond_true,Sg (land:=land) (n:=n) (by omega) (by omega),bind_some];have key:iter (xS n land id d (cO land id) (land.map (·.area))) n ((0:Int),([]:List Int))=some (D8 land (cO land id).1 id d):=by
   have:=ko (l:=land) (step:=xS n land id d (cO land id) (land.map (·.area))) (fun i (s:List Int)=>(((i:Nat):Int),s)) (fun u s=>bif JB (cO land id).1 id d u then s++[u.id]else s) (fun s=>s) (fun i s=>s.length<=i)
    (fun i hi s hs=>?_) (fun s hs=>by simp[xS]) n (by omega) [] (Nat.le_refl _)
   ·rw[show ((0:Nat):Int)=0 from rfl]at this;rw[this];have gen:∀ (ys:List iO) (s:List Int),ys.foldl (fun s u=>bif JB (cO land id).1 id d u then s++[u.id]else s) s=s++D8 ys (cO land id).1 id d:=by
     intro ys
     induction ys with
     |nil=>intro s;simp[D8]
     |cons y ys ih=>
      intro s;simp only[foldl_cons,ih,D8];cases hy:JB (cO land id).1 id d y<;>simp[hy]
    rw[gen];simp
   ·have hlm:(land.map (·.area)).length=land.length:=(by simp);have hi':decide (((i:Nat):Int) < (((land.map (·.area)).length:Nat):Int))=true:=(by rw[hlm];simpa using hi);have ib:inb ((i:Nat):Int) (land.map (·.area)).length=true:=dM (by omega);have g:at? (land.map (·.area)) (((0:Nat):Int)+((i:Nat):Int))=some land[i].area:=(by rw[DF];simp[hi]);have hu:=h _ (getElem_mem hi);have ap:bC s.length s.length (sub ([land[i].id]:List Int) 0 1).length 1 8=true:=bR (n:=1) (by omega) (by simp only[maxLen];omega);have gp:R6 n (cO land id).1.area land[i].area=some (Xf (cO land id).1.area land[i].area):=ac7 ht hu hn;simp only[xS,hi',cond_true,ib,g,bind_some,gp,bL hi];have e:((bif (Xf (cO land id).1.area land[i].area).2 then (bif (decide ((Xf (cO land id).1.area land[i].area).1<=d))then some (land[i].id != id)else some false)else some false):Option Bool)=some (JB (cO land id).1 id d land[i]):=by
     unfold JB;cases (Xf (cO land id).1.area land[i].area).2<;>cases decide ((Xf (cO land id).1.area land[i].area).1<=d)<;>rfl
    rw[e];simp only[bind_some];cases JB (cO land id).1 id d land[i]with
    |true=>
     simp only[cond_true,ap,dY,aA,bind_some];refine⟨?_,by simp;omega⟩;rw[ay (by omega)];rfl
    |false=>
     simp only[cond_false,aA,cond_true,bind_some];exact⟨by rw[ay (by omega)],by omega⟩
  have hlen:(D8 land (cO land id).1 id d).length<=100:=by
   unfold D8;rw[length_map];exact Nat.le_trans (List.length_filter_le _ _) hl
  rw[key];simp only[bind_some,aA,cond_true];rw[xW (by omega) (by omega)];simp only[bind_some,jo,aA,cond_true];rw[Ad (by rw[jo];omega) (by rw[jo];omega)];simp only[bind_some,bF,aA,cond_true];rfl
def aeC:List ByteArray:=[⟨#[104,111,109,101]⟩,⟨#[115,104,111,112]⟩,⟨#[119,111,114,107]⟩,⟨#[112,97,114,107]⟩,⟨#[112,108,97,110,116]⟩,⟨#[104,97,108,108]⟩]
def nameOf (use:Int):Option ByteArray:=at? aeC use
theorem YU {V O:Type} {step:V->Option (V ⊕ O)} (R:Nat->V->Prop) (N:Nat) (Q:O->Prop) (h:∀ i v,i < N->R i v->∃ v',step v=some (.inl v')∧R (i+1) v') (hN:∀ v,R N v->∃ o,step v=some (.inr o)∧Q o):
 ∀ n,N < n->∀ v,R 0 v->∃ o,iter step n v=some o∧Q o:=by
 have main:∀ k i n v,i+k=N->k < n->R i v->∃ o,iter step n v=some o∧Q o:=by
  intro k
  induction k with
  |zero=>
   intro i n v hi hn hR;obtain⟨m,rfl⟩:∃ m,n=m+1:=⟨n - 1,by omega⟩;have:i=N:=(by omega);subst this;obtain⟨o,h1,h2⟩:=hN v hR;exact⟨o,aQ h1,h2⟩
  |succ k ih=>
   intro i n v hi hn hR;obtain⟨m,rfl⟩:∃ m,n=m+1:=⟨n - 1,by omega⟩;obtain⟨v',h1,h2⟩:=h i v (by omega) hR;obtain⟨o,h3,h4⟩:=ih (i+1) m v' (by omega) (by omega) h2;exact⟨o,by rw[bI h1,h3],h4⟩
 intro n hn v hR;exact main N 0 n v (by omega) hn hR
def Sj (a b:au):au:=⟨max a.x0 b.x0,max a.y0 b.y0,min a.x1 b.x1,min a.y1 b.y1⟩
theorem Lc (a:au):wT a=some (bif OkR a then (a,true)else (⟨0,0,0,0⟩,false)):=by
 unfold wT;rw[kK];simp only[bind_some,ac3]
theorem Sk (a b:au):Aa a b=some (bif OkR a&&(OkR b&&OkR (Sj a b))then (Sj a b,true)else (⟨0,0,0,0⟩,false)):=by
 unfold Aa;rw[kK,kK];simp only[bind_some,ac3];rw[show au.mk (max a.x0 b.x0) (max a.y0 b.y0) (min a.x1 b.x1) (min a.y1 b.y1)=Sj a b from rfl,Lc];simp only[bind_some];generalize OkR (Sj a b)=c;cases OkR a<;>cases OkR b<;>cases c<;>rfl
def aeD (r:au):Int:=i64.wrap (i64.wrap (r.x1 - r.x0)*i64.wrap (r.y1 - r.y0))
theorem M6 {r:au} (h:OkR r=true):DX r=some (aeD r):=by
 unfold DX;rw[Lc,h];rfl
def agR (x:au) (n:Int) (y:au):Int:=bif OkR x&&(OkR y&&OkR (Sj x y))then i64.wrap (n+aeD (Sj x y))else n
def sEq (a b:ByteArray):Bool:=ByteArray.toList a==ByteArray.toList b
abbrev agS (r:aX):Prop:=r.zones.length<=100∧r.except.length<=100
theorem afI (r:au):OkR r=true↔(0<=r.x0∧r.x0 < r.x1∧r.x1<=1048576)∧(0<=r.y0∧r.y0 < r.y1∧r.y1<=1048576):=by simp only[OkR,and_eq_true,decide_eq_true_eq];omega
def four (r m:au):List au:=[⟨r.x0,r.y0,m.x0,r.y1⟩,⟨m.x1,r.y0,r.x1,r.y1⟩,⟨m.x0,r.y0,m.x1,m.y0⟩,⟨m.x0,m.y1,m.x1,r.y1⟩]
abbrev aaJ (t:iO):Prop:=t.area.length<=900∧t.from_.length*8<=140737488355328
theorem aaK {t:iO} (h:aaJ t):KX t=some t:=by
 unfold KX;have h2:=h.2;rw[MW (by omega),bind_some,show kE t.from_=some t.from_ from uh (b:=8) (by omega) (by simp only[maxLen];omega),bind_some];simp only[bF,aA,cond_true]
theorem Vy {n:Nat} {land:List iO} {id:Int} (h:∀ t∈land,aaJ t) (hl:land.length < 1099511627776) (hn:land.length < n):DT n land id=some (cO land id):=by
 unfold DT;have:=kT (l:=land) (step:=DR land id) (fun i=>(i:Int)) (fun t=>t.id==id) () (fun i=>(land.getD i abU,true)) (fun i hi=>?_) ?_ n hn
 ·rw[show ((0:Nat):Int)=0 from rfl]at this;rw[this];unfold cO;rcases aaI (fun t:iO=>t.id==id) land with ⟨i,hi,h1,h2⟩ |⟨h1,h2⟩
  ·rw[h1,h2];simp[hi]
  ·rw[h1,h2];rfl
 ·simp only[DR,gB hi,cond_true,bL hi,bind_some,aaK (h _ (getElem_mem hi))];cases land[i].id==id with
  |true=>simp[hi]
  |false=>simp only[cond_false];rw[ay (by omega)]
 ·simp[DR]
theorem ac8 {land:List iO} (h:∀ t∈land,aaJ t) (id:Int):aaJ (cO land id).1:=by
 unfold cO;split
 ·rename_i t ht;exact h t (List.mem_of_find?_eq_some ht)
 ·simp[aaJ,abU]
structure ahv (t:gG):Prop where
 rules:t.plan_rules.length<=20
 ruleOk:∀ r∈t.plan_rules,agS r
 zones:t.plan_zones.length<=20
 land:t.land.length<=20
 lots:∀ l∈t.land,aaJ l
 easements:t.easements.length<=5
 areas:∀ e∈t.easements,e.area.length<=10
structure ahQ (X Y:List Int) (es:List HY):Prop where
 ok:∀ e∈es,rightL e.area=true
 x0:∀ e∈es,∀ c∈e.area,c.x0∈X
 x1:∀ e∈es,∀ c∈e.area,c.x1∈X
 y1:∀ e∈es,∀ c∈e.area,c.y1∈Y
 len:∀ e∈es,e.area.length<=200
 size:X.length*Y.length<=200000
abbrev M7 (t:gG):Prop:=∀ l∈t.land,l.from_.length*8<=140737488355328
theorem Ck {α W O:Type} {l:List α} {step:Int->Option (Int ⊕ (W ⊕ O))} (p:α->Bool) (w:W) (o:O)
 (h:∀ i (hi:i < l.length),step (i:Int)=some (bif p l[i]then .inr (.inr o)else .inl ((i+1:Nat):Int)))
 (hend:step (l.length:Int)=some (.inr (.inl w))) (n:Nat) (hn:l.length < n):iter step n (0:Int)=some (bif l.any p then .inr o else .inl w):=by
 have:=kT (l:=l) (step:=step) (fun i=>((i:Nat):Int)) p w (fun _=>o) h hend n hn;rw[show ((0:Nat):Int)=0 from rfl]at this;rw[this,<- mq];cases lu p l<;>rfl
def aaL (t:gG):Bool:=
 (decide (t.plan_rules.length<=10)&&(decide (t.plan_zones.length<=6)&&(decide (t.plan_defs.length<=20)&&(decide (t.plan_tables.length<=20)&&(decide (t.land.length<=5)&&(decide (t.easements.length<=5)&&decide (t.built.length<=6)))))))&&
 (!(t.plan_rules.any fun r=>decide (r.zones.length>5) || decide (r.except.length>5))&&(!(t.land.any fun l=>decide (l.area.length>10))&&!(t.easements.any fun e=>decide (e.area.length>10))))
theorem ahw {a b:Nat}:decide ((a:Int)>(b:Int))=!decide (a<=b):=by
 by_cases h:a<=b
 ·have:¬ ((a:Int)>(b:Int)):=by omega
  simp[h,this]
 ·have:(a:Int)>(b:Int):=by omega
  simp only[this,h,decide_true,decide_false,Bool.not_false]
theorem aaM {n:Nat} (t:gG) (hn:2000<=n):PN n t=some (aaL t):=by
 unfold PN aaL;simp only[show (10:Int)=((10:Nat):Int)from rfl,show (6:Int)=((6:Nat):Int)from rfl,show (20:Int)=((20:Nat):Int)from rfl,show (5:Int)=((5:Nat):Int)from rfl,ahw,ac3,bind_some];cases hA:(decide (t.plan_rules.length<=10)&&(decide (t.plan_zones.length<=6)&&(decide (t.plan_defs.length<=20)&&(decide (t.plan_tables.length<=20)&&(decide (t.land.length<=5)&&(decide (t.easements.length<=5)&&decide (t.built.length<=6)))))))with
 |false=>
  have e:(bif !decide (t.plan_rules.length<=10)then true else bif !decide (t.plan_zones.length<=6)then true else bif !decide (t.plan_defs.length<=20)then true else bif !decide (t.plan_tables.length<=20)then true else bif !decide (t.land.length<=5)then true else bif !decide (t.easements.length<=5)then true else !decide (t.built.length<=6))=true:=by
   revert hA;cases decide (t.plan_rules.length<=10)<;>cases decide (t.plan_zones.length<=6)<;>cases decide (t.plan_defs.length<=20)<;>cases decide (t.plan_tables.length<=20)<;>cases decide (t.land.length<=5)<;>cases decide (t.easements.length<=5)<;>cases decide (t.built.length<=6)<;>simp
  rw[e];rfl
 |true=>
  have e:(bif !decide (t.plan_rules.length<=10)then true else bif !decide (t.plan_zones.length<=6)then true else bif !decide (t.plan_defs.length<=20)then true else bif !decide (t.plan_tables.length<=20)then true else bif !decide (t.land.length<=5)then true else bif !decide (t.easements.length<=5)then true else !decide (t.built.length<=6))=false:=by
   revert hA;cases decide (t.plan_rules.length<=10)<;>cases decide (t.plan_zones.length<=6)<;>cases decide (t.plan_defs.length<=20)<;>cases decide (t.plan_tables.length<=20)<;>cases decide (t.land.length<=5)<;>cases decide (t.easements.length<=5)<;>cases decide (t.built.length<=6)<;>simp
  simp only[and_eq_true,decide_eq_true_eq]at hA;rw[e];simp only[cond_false,Bool.true_and];rw[Ck (l:=t.plan_rules) (fun r=>decide (r.zones.length>5) || decide (r.except.length>5)) () false (fun i hi=>?_) (by simp[Jv]) n (by omega)]
  ·cases (t.plan_rules.any fun r=>decide (r.zones.length>5) || decide (r.except.length>5))with
   |true=>rfl
   |false=>
    simp only[cond_false,fQ];rw[Ck (l:=t.land) (fun l=>decide (l.area.length>10)) () false (fun i hi=>?_) (by simp[Jw]) n (by omega)]
    ·cases (t.land.any fun l=>decide (l.area.length>10))with
     |true=>rfl
     |false=>
      simp only[cond_false,fQ];rw[Ck (l:=t.easements) (fun e=>decide (e.area.length>10)) () false (fun i hi=>?_) (by simp[Jy]) n (by omega)]
      ·cases (t.easements.any fun e=>decide (e.area.length>10))<;>rfl
      ·have d:decide ((((t.easements[i]).area.length:Nat):Int)>10)=decide ((t.easements[i]).area.length>10):=(by rw[Bool.eq_iff_iff,decide_eq_true_eq,decide_eq_true_eq];omega);simp only[Jy,gB hi,cond_true,bL hi,bind_some,d,Option.map_some,ac3,ay (show i < 9223372036854775807 by omega)]
    ·have d:decide ((((t.land[i]).area.length:Nat):Int)>10)=decide ((t.land[i]).area.length>10):=(by rw[Bool.eq_iff_iff,decide_eq_true_eq,decide_eq_true_eq];omega);simp only[Jw,gB hi,cond_true,bL hi,bind_some,d,Option.map_some,ac3,ay (show i < 9223372036854775807 by omega)]
  ·have d1:decide ((((t.plan_rules[i]).zones.length:Nat):Int)>5)=decide ((t.plan_rules[i]).zones.length>5):=(by rw[Bool.eq_iff_iff,decide_eq_true_eq,decide_eq_true_eq];omega);have d2:decide ((((t.plan_rules[i]).except.length:Nat):Int)>5)=decide ((t.plan_rules[i]).except.length>5):=(by rw[Bool.eq_iff_iff,decide_eq_true_eq,decide_eq_true_eq];omega);simp only[Jv,gB hi,cond_true,bL hi,bind_some,d1,d2,Option.map_some,ac3,ay (show i < 9223372036854775807 by omega)];cases decide ((t.plan_rules[i]).zones.length>5)<;>cases decide ((t.plan_rules[i]).except.length>5)<;>rfl
theorem afJ {t:gG} (h:aaL t=true) (hf:M7 t):ahv t:=by
 unfold aaL at h;simp only[and_eq_true,decide_eq_true_eq,Bool.not_eq_true',List.any_eq_false,Bool.or_eq_true,not_or]at h;obtain⟨⟨h1,h2,h3,h4,h5,h6,h7⟩,g1,g2,g3⟩:=h;refine⟨by omega,fun r hr=>?_,by omega,by omega,fun l hl=>?_,by omega,fun e he=>?_⟩
 ·have:=g1 r hr;exact⟨by omega,by omega⟩
 ·have:=g2 l hl;exact⟨by omega,hf l hl⟩
 ·have:=g3 e he;omega
theorem aeE {V O:Type} {step:V->Option (V ⊕ O)} (Inv:V->Prop) (Q:O->Prop) (m:V->Nat)
 (h:∀ v,Inv v->(∃ v',step v=some (.inl v')∧Inv v'∧m v' < m v)∨∃ o,step v=some (.inr o)∧Q o):
 ∀ n v,Inv v->m v < n->∃ o,iter step n v=some o∧Q o:=by
 intro n
 induction n with
 |zero=>intro v _ hm;omega
 |succ n ih=>
  intro v hv hm;rcases h v hv with ⟨v',h1,h2,h3⟩ |⟨o,h1,h2⟩
  ·obtain⟨o,h4,h5⟩:=ih v' h2 (by omega);exact⟨o,by rw[bI h1];exact h4,h5⟩
  ·exact⟨o,aQ h1,h2⟩
theorem dw {V O:Type} {step:V->Option (V ⊕ O)} (f:Nat->V) {s:V} (N:Nat) (o:O) (h0:s=f 0)
 (h1:∀ i,i < N->step (f i)=some (.inl (f (i+1)))) (h2:step (f N)=some (.inr o)) (n:Nat) (hn:N < n):iter step n s=some o:=by rw[h0];exact mh f N o h1 h2 n hn
def tb (f:Nat->Nat->Bool):List Bool:=(List.range 144).map fun i=>f (i/12) (i%12)
theorem jQ (f:Nat->Nat->Bool):(tb f).length=144:=by simp[tb]
theorem PV (f:Nat->Nat->Bool) {a b:Nat} (ha:a < 12) (hb:b < 12):(tb f)[a*12+b]? =some (f a b):=by
 simp only[tb,List.getElem?_map];rw[List.getElem?_range (by omega)];simp only[Option.map_some,Option.some.injEq];rw[show (a*12+b)/12=a by omega,show (a*12+b)%12=b by omega]
theorem kY {f g:Nat->Nat->Bool} (h:∀ a b,a < 12->b < 12->f a b=g a b):tb f=tb g:=by
 refine List.map_congr_left fun i hi=>h _ _ ?_ ?_
 ·have:=List.mem_range.1 hi;omega
 ·omega
theorem Xg {f g:Nat->Nat->Bool} (h:tb f=tb g) {a b:Nat} (ha:a < 12) (hb:b < 12):f a b=g a b:=by
 have:=congrArg (fun l=>l[a*12+b]?) h;simpa[PV f ha hb,PV g ha hb]using this
def upd (f:Nat->Nat->Bool) (a b:Nat) (v:Bool):Nat->Nat->Bool:=fun x y=>if x=a∧y=b then v else f x y
theorem afK (f:Nat->Nat->Bool) {a b:Nat} (ha:a < 12) (hb:b < 12) (v:Bool):(tb f).set (a*12+b) v=tb (upd f a b v):=by
 apply List.ext_getElem?;intro i;rw[List.getElem?_set];simp only[tb,List.getElem?_map,length_map,List.length_range];by_cases hi:i < 144
 ·rw[List.getElem?_range hi];by_cases e:a*12+b=i
  ·rw[if_pos e,if_pos (by omega)];have e1:i/12=a:=(by omega);have e2:i%12=b:=(by omega);simp[upd,e1,e2]
  ·rw[if_neg e];have:¬ (i/12=a∧i%12=b):=(by omega);simp[upd,this]
 ·rw[List.getElem?_eq_none (by simp;omega)];by_cases e:a*12+b=i
  ·omega
  ·rw[if_neg e];rfl
def fw (f:Nat->Nat->Bool):bH:=⟨tb f,jQ f⟩
theorem D9 (f:Nat->Nat->Bool):bA (sub (tb f) 0 144)=some (fw f):=by
 have h:sub (tb f) 0 144=tb f:=by rw[RJ,List.take_of_length_le (by rw[jQ];omega)]
 unfold bA;rw[dif_pos (by rw[h];exact jQ f)];simp[fw,h]
theorem ou {l:List Bool} (f:Nat->Nat->Bool) (h:l.length=144):j6 l 0 (tb f)=tb f:=by
 simp only[j6,List.take_zero,nil_append,Nat.zero_add,jQ];rw[List.drop_of_length_le (by omega),List.append_nil]
theorem xX:(List.replicate 144 false).length=144:=by simp
theorem mW:List.replicate 144 false=tb fun _ _=>false:=by
 apply List.ext_getElem?;intro i;simp only[tb,List.getElem?_map,List.getElem?_replicate];by_cases hi:i < 144
 ·rw[if_pos hi,List.getElem?_range hi];rfl
 ·rw[if_neg hi,List.getElem?_eq_none (by simp;omega)];rfl
theorem jv (f g:Nat->Nat->Bool):(eqL (tb f).length 144&&fP 0 (tb f).length (tb g).length)=true:=by simp[jQ,eqL,fP]
theorem Ea (f:Nat->Nat->Bool) {a b:Nat} (ha:a < 12) (hb:b < 12):atO (tb f) (0+(a:Int).toNat*12) (b:Int)=some (f a b):=by
 simp only[atO,Nat.zero_add,Int.toNat_natCast,show decide ((0:Int)<=(b:Int))=true by simp,cond_true];exact PV f ha hb
theorem Sl (f:Nat->Nat->Bool) {a b:Nat} (ha:a < 12) (hb:b < 12):(decide ((0:Int)<=(b:Int))&&fP ((0+(a:Int).toNat*12)+(b:Int).toNat) 1 (tb f).length)=true:=by simp only[fP,jQ,Int.toNat_natCast,and_eq_true,decide_eq_true_eq];omega
theorem Xh (f:Nat->Nat->Bool) {a b:Nat} (ha:a < 12) (hb:b < 12) (v:Bool):List.set (tb f) ((0+(a:Int).toNat*12)+(b:Int).toNat) v=tb (upd f a b v):=by simp only[Nat.zero_add,Int.toNat_natCast];exact afK f ha hb v
def abV (p:Nat->Bool):Bool:=(List.range 12).any p
theorem Cm {p:Nat->Bool}:abV p=true↔∃ b,b < 12∧p b=true:=by simp only[abV,any_eq_true,List.mem_range]
def rnd (w:Nat->Nat->Bool):Nat->Nat->Bool:=fun a c=>w a c || abV fun b=>w a b&&w b c
theorem YV {n:Nat} (hn:100<=n) {v2:List Bool} (h2:v2.length=144) (w f:Nat->Nat->Bool) {a b:Nat} (ha:a < 12) (hb:b < 12):
 iter (oI v2 (fw w) (a:Int) (b:Int)) n ((0:Int),tb f)=some (tb fun x y=>if x=a then f x y || (w a b&&w b y)else f x y):=by
 refine dw (fun i=>((i:Int),tb fun x y=>if x=a∧y < i then f x y || (w a b&&w b y)else f x y)) 12 _ (by simp) (fun i hi=>?_) ?_ n (by omega)
 ·have e:decide ((i:Int) < 12)=true:=by simp;omega
  have hw:j6 v2 0 (fw w).l=tb w:=ou w h2;simp only[oI,e,cond_true,tC,ha,hb,hi,decide_true,hw];generalize hF:(fun x y=>if x=a∧y < i then f x y || (w a b&&w b y)else f x y:Nat->Nat->Bool)=F;have hFa:F a i=f a i:=by rw[<- hF];simp
  have fin:∀ v,v=(f a i || (w a b&&w b i))->tb (upd F a i v)=tb fun x y=>if x=a∧y < i+1 then f x y || (w a b&&w b y)else f x y:=by
   intro v hv;refine kY fun x y _ _=>?_;simp only[upd,<- hF];by_cases h1:x=a
   ·subst h1;by_cases h3:y=i
    ·subst h3;simp[hv]
    ·by_cases h4:y < i
     ·simp[h3,h4,show y < i+1 by omega]
     ·simp[h3,h4,show ¬ y < i+1 by omega]
   ·simp[h1]
  simp only[Ea F ha hi,Ea w ha hb,Ea w hb hi,Sl F ha hi,Xh F ha hi,bind_some,cond_true,hFa,ay (show i < 9223372036854775807 by omega)];cases h1:f a i with
  |true=>simp only[cond_true,bind_some];rw[fin true (by simp[h1])]
  |false=>
   simp only[cond_false];cases h3:w a b with
   |true=>simp only[cond_true,bind_some];rw[fin (w b i) (by simp[h1,h3]),h3]
   |false=>simp only[cond_false,bind_some];rw[fin false (by simp[h1,h3]),h3]
 ·have e:decide (((12:Nat):Int) < 12)=false:=by decide
  simp only[oI,e,cond_false];rw[kY fun x y _ hy=>?_];by_cases h1:x=a<;>simp[h1,hy]
theorem YW {n:Nat} (hn:100<=n) {v2:List Bool} (h2:v2.length=144) (w f:Nat->Nat->Bool) {a:Nat} (ha:a < 12):
 iter (oJ n v2 (fw w) (a:Int)) n ((0:Int),tb f)=some (tb fun x y=>if x=a then f x y || abV (fun b=>w a b&&w b y)else f x y):=by
 refine dw (fun i=>((i:Int),tb fun x y=>if x=a then f x y || (List.range i).any (fun b=>w a b&&w b y)else f x y)) 12 _ (by simp) (fun i hi=>?_) ?_ n (by omega)
 ·have e:decide ((i:Int) < 12)=true:=by simp;omega
  simp only[oJ,e,cond_true];rw[YV hn h2 w _ ha hi];simp only[bind_some,ay (show i < 9223372036854775807 by omega)];rw[kY fun x y _ _=>?_];by_cases h1:x=a
  ·simp[h1,List.range_succ,Bool.or_assoc]
  ·simp[h1]
 ·have e:decide (((12:Nat):Int) < 12)=false:=by decide
  simp only[oJ,e,cond_false];rfl
theorem YX {n:Nat} (hn:100<=n) {v2:List Bool} (h2:v2.length=144) (w:Nat->Nat->Bool):
 iter (oK n v2 (fw w)) n ((0:Int),tb w)=some (tb (rnd w)):=by
 refine dw (fun i=>((i:Int),tb fun x y=>if x < i then rnd w x y else w x y)) 12 _ (by simp) (fun i hi=>?_) ?_ n (by omega)
 ·have e:decide ((i:Int) < 12)=true:=by simp;omega
  simp only[oK,e,cond_true];rw[YW hn h2 w _ hi];simp only[bind_some,ay (show i < 9223372036854775807 by omega)];rw[kY fun x y _ _=>?_];by_cases h1:x=i
  ·subst h1;simp[rnd]
  ·by_cases h3:x < i
   ·simp[h1,h3,show x < i+1 by omega]
   ·simp[h1,h3,show ¬ x < i+1 by omega]
 ·have e:decide (((12:Nat):Int) < 12)=false:=by decide
  simp only[oK,e,cond_false];rw[kY fun x y hx _=>?_];simp[hx]
def cnt (l:List Bool):Nat:=l.countP id
theorem aeF (l:List Bool):cnt l<=l.length:=List.countP_le_length
theorem cnt_lt:∀ {l m:List Bool},l.length=m.length->(∀ (i:Nat) (h:i < l.length) (h':i < m.length),l[i]=true->m[i]=true)->l≠m->cnt l < cnt m
 |[],[],_,_,h=>absurd rfl h
 |x::l,y::m,hl,hs,hne=>by
  have h0:=hs 0 (by simp) (by simp);have ht:∀ (i:Nat) (h:i < l.length) (h':i < m.length),l[i]=true->m[i]=true:=fun i h h'=>by
   have:=hs (i+1) (by simpa using h) (by simpa using h');simp only[List.getElem_cons_succ]at this;exact this
  simp only[List.getElem_cons_zero]at h0;have hl':l.length=m.length:=by simpa using hl
  have hle:cnt l<=cnt m:=by
   by_cases e:l=m
   ·rw[e];exact Nat.le_refl _
   ·exact Nat.le_of_lt (cnt_lt hl' ht e)
  simp only[cnt,List.countP_cons,id]at hle ⊢;by_cases e:l=m
  ·subst e;have:x≠y:=fun e=>hne (by rw[e]);cases x<;>cases y<;>simp_all
  ·have:=cnt_lt hl' ht e;simp only[cnt]at this;cases x<;>cases y<;>simp_all<;>omega
 |[],_::_,h,_,_=>by simp at h
 |_::_,[],h,_,_=>by simp at h
theorem afL {w:Nat->Nat->Bool} (h:tb w≠tb (rnd w)):cnt (tb w) < cnt (tb (rnd w)):=by
 refine cnt_lt (by rw[jQ,jQ]) (fun i h1 h2 hi=>?_) h;simp only[tb,List.getElem_map,List.getElem_range,rnd]at hi ⊢;simp[hi]
inductive Tc (e:Nat->Nat->Bool):Nat->Nat->Prop
 |one {a b:Nat}:a < 12->b < 12->e a b=true->Tc e a b
 |trans {a b c:Nat}:Tc e a b->Tc e b c->Tc e a c
theorem Tc.lt {e:Nat->Nat->Bool} {a b:Nat} (h:Tc e a b):a < 12∧b < 12:=by
 induction h with
 |one h1 h2 _=>exact⟨h1,h2⟩
 |trans _ _ i1 i2=>exact⟨i1.1,i2.2⟩
theorem Ld {n:Nat} (hn:400<=n) (m0:Nat->Nat->Bool):∃ r:Nat->Nat->Bool,qg n (fw m0)=some (fw r)∧(∀ a b,a < 12->b < 12->(r a b=true↔Tc m0 a b)):=by
 unfold qg;simp only[mW,jv,cond_true,ou _ (jQ _)]
 obtain⟨o,h1,r,rfl,hr1,hr2,hr3⟩:=aeE (step:=uY n)
  (fun v=>∃ m w:Nat->Nat->Bool,v=(tb m,tb w)∧(∀ a b,a < 12->b < 12->m0 a b=true->m a b=true)∧(∀ a b,a < 12->b < 12->m a b=true->Tc m0 a b)∧(tb m=tb (rnd w)∨tb w=tb fun _ _=>false))
  (fun o=>∃ r:Nat->Nat->Bool,o=tb r∧(∀ a b,a < 12->b < 12->m0 a b=true->r a b=true)∧(∀ a b,a < 12->b < 12->r a b=true->Tc m0 a b)∧tb r=tb (rnd r))
  (fun v=>2*(144 - cnt v.1)+(if v.2=v.1 then 0 else 1)) (by
   rintro v ⟨m,w,rfl,h1,h2,h3⟩;simp only[uY,D9,bind_some];by_cases he:tb w=tb m
   ·refine .inr ⟨tb m,?_,m,rfl,h1,h2,?_⟩
    ·have:WA (fw w).l (fw m).l=true:=(by show decide (tb w=tb m)=true;simp[he]);simp[this]
    ·rcases h3 with h3 |h3
     ·rw[h3];refine kY fun a b ha hb=>?_;have hwm:∀ x y,x < 12->y < 12->w x y=m x y:=fun x y hx hy=>Xg he hx hy;simp only[rnd,hwm a b ha hb];congr 1;rw[Bool.eq_iff_iff,Cm,Cm];constructor
      ·rintro⟨c,hc,h⟩;exact⟨c,hc,by rw[<- hwm a c ha hc,<- hwm c b hc hb];exact h⟩
      ·rintro⟨c,hc,h⟩;exact⟨c,hc,by rw[hwm a c ha hc,hwm c b hc hb];exact h⟩
     ·have hm0:∀ x y,x < 12->y < 12->m x y=false:=fun x y hx hy=>Xg (he.symm.trans h3) hx hy;refine kY fun a b ha hb=>?_;simp only[rnd,hm0 a b ha hb,Bool.false_or];symm;rw[Bool.eq_false_iff];intro h;obtain⟨c,hc,h⟩:=Cm.1 h;rw[hm0 a c ha hc]at h;simp at h
   ·refine .inl ⟨(tb (rnd m),tb m),?_,⟨rnd m,m,rfl,fun a b ha hb h=>by simp[rnd,h1 a b ha hb h],fun a b ha hb h=>?_,.inl rfl⟩,?_⟩
    ·have:WA (fw w).l (fw m).l=false:=(by show decide (tb w=tb m)=false;simp[he]);simp only[this,Bool.not_false,cond_true,bind_some];have e1:(eqL (fw m).l.length 144&&fP 0 (fw m).l.length (tb w).length)=true:=jv m w;have e2:j6 (tb w) 0 (fw m).l=tb m:=ou m (jQ w);simp only[e1,cond_true,YX (show 100<=n by omega) (jQ w) m,bind_some,e2,D9];have e3:(eqL (fw m).l.length 144&&fP 0 (fw m).l.length (List.replicate 144 false).length)=true:=(by rw[mW];exact jv m _);have e4:j6 (List.replicate 144 false) 0 (fw m).l=tb m:=ou m xX;simp only[e3,e4,cond_true]
    ·simp only[rnd,Bool.or_eq_true]at h;rcases h with h |h
     ·exact h2 a b ha hb h
     ·obtain⟨c,hc,h⟩:=Cm.1 h;simp only[and_eq_true]at h;exact .trans (h2 a c ha hc h.1) (h2 c b hc hb h.2)
    ·simp only;have hc:=aeF (tb m);rw[jQ]at hc;rw[if_neg he];by_cases hr:tb m=tb (rnd m)
     ·rw[if_pos hr,<- hr];omega
     ·have:=afL hr;have hc2:=aeF (tb (rnd m));rw[jQ]at hc2;rw[if_neg hr];omega)
  n (tb m0,tb fun _ _=>false) ⟨m0,fun _ _=>false,rfl,fun _ _ _ _ h=>h,fun a b ha hb h=> .one ha hb h,.inr rfl⟩ (by
    simp only;split<;>omega)
 have e0:(fw m0).l=tb m0:=rfl;simp only[e0,h1,bind_some,D9];have e3:(eqL (fw r).l.length 144&&fP 0 (fw r).l.length (tb fun _ _=>false).length)=true:=jv r _;have e4:j6 (tb fun _ _=>false) 0 (fw r).l=tb r:=ou r (jQ _);simp only[e3,e4,cond_true,D9,bind_some];refine⟨r,rfl,fun a b ha hb=>⟨hr2 a b ha hb,fun h=>?_⟩⟩
 induction h with
 |one h1 h2 h3=>exact hr1 _ _ h1 h2 h3
 | @trans x y z p q i1 i2=>
  have:=Xg hr3 p.lt.1 q.lt.2;rw[this];simp only[rnd,Bool.or_eq_true];exact .inr (Cm.2 ⟨y,p.lt.2,by rw[i1 p.lt.1 p.lt.2,i2 q.lt.1 q.lt.2];rfl⟩)
def M8 (o:aY) (p:kD):Bool:=decide (0<=min p.a0 p.a1)&&decide (max p.a0 p.a1 < o.values)
def nO (o:aY):Bool:=decide (1<=o.values)&&decide (o.values<=12)&&decide (o.pairs.length<=144)&&o.pairs.all (M8 o)
theorem Ia {α:Type} (p:α->Bool) (l:List α):(match lu (fun x=>!(p x)) l with |some _=>false |none=>true)=l.all p:=by
 have h:=mq (fun x=>!(p x)) l;cases hf:lu (fun x=>!(p x)) l with
 |some i=>
  rw[hf]at h;simp only[Option.isSome_some]at h;have:l.all p=false:=by rw[List.all_eq_not_any_not];rw[<- h];rfl
  rw[this]
 |none=>
  rw[hf]at h;simp only[Option.isSome_none]at h;have:l.all p=true:=by rw[List.all_eq_not_any_not];rw[<- h];rfl
  rw[this]
theorem EF {n:Nat} (hn:200<=n) (o:aY):qd n o=some (nO o):=by
 unfold qd nO;by_cases h1:o.values < 1
 ·have:decide (1<=o.values)=false:=by simp;omega
  simp[h1,this]
 ·have e1:decide (1<=o.values)=true:=by simp;omega
  by_cases h2:o.values>12
  ·have:decide (o.values<=12)=false:=(by simp;omega);simp[h1,h2,this]
  ·have e2:decide (o.values<=12)=true:=(by simp;omega);by_cases h3:(o.pairs.length:Int)>144
   ·have:decide (o.pairs.length<=144)=false:=(by simp;omega);simp[h1,h2,h3,this]
   ·have e3:decide (o.pairs.length<=144)=true:=(by simp;omega);have hl:o.pairs.length<=144:=(by omega);simp only[h1,h2,h3,e1,e2,e3,decide_false,cond_false,bind_some,Bool.true_and];have:=kT (l:=o.pairs) (step:=oG o) (fun i=>(i:Int)) (fun p=>!(M8 o p)) () (fun _=>false) (fun i hi=>by
     have e:decide ((i:Int) < (o.pairs.length:Int))=true:=(by simpa using hi);simp only[oG,e,cond_true,bL hi,bind_some,M8,ay (show i < 9223372036854775807 by omega)];by_cases h4:min o.pairs[i].a0 o.pairs[i].a1 < 0
     ·have:decide (0<=min o.pairs[i].a0 o.pairs[i].a1)=false:=(by simpa using h4);simp only[h4,this,decide_true,cond_true,bind_some,Bool.false_and,Bool.not_false,Option.map_some]
     ·have:decide (0<=min o.pairs[i].a0 o.pairs[i].a1)=true:=(by simpa using h4);simp only[h4,this,decide_false,cond_false,bind_some,Bool.true_and];by_cases h5:max o.pairs[i].a0 o.pairs[i].a1>=o.values
      ·have:decide (max o.pairs[i].a0 o.pairs[i].a1 < o.values)=false:=(by simpa using h5);simp only[h5,this,decide_true,cond_true,Bool.not_false,Option.map_some]
      ·have:decide (max o.pairs[i].a0 o.pairs[i].a1 < o.values)=true:=(by simp only[decide_eq_true_eq];omega);simp only[h5,this,decide_false,cond_false,Bool.not_true]) (by
     have e:decide ((o.pairs.length:Int) < (o.pairs.length:Int))=false:=(by simp);simp only[oG,e,cond_false]) n (by omega)
    rw[show ((0:Nat):Int)=0 from rfl]at this;rw[this];have hf:=Ia (M8 o) o.pairs;cases hx:lu (fun p=>!(M8 o p)) o.pairs with
    |some i=>rw[hx]at hf;simp only[rU];rw[<- hf]
    |none=>rw[hx]at hf;simp only[fQ];rw[<- hf]
def eO (o:aY) (a b:Nat):Bool:=o.pairs.any fun p=>decide (p.a0=(a:Int))&&decide (p.a1=(b:Int))
theorem afM (l:List kD) (x y:Nat) (p:kD) (h0:p.a0=(x:Int)) (h1:p.a1=(y:Int)):upd (fun (a b:Nat)=>l.any fun p=>decide (p.a0=(a:Int))&&decide (p.a1=(b:Int))) x y true=fun (a b:Nat)=>(l++[p]).any fun p=>decide (p.a0=(a:Int))&&decide (p.a1=(b:Int)):=by
 funext a b;simp only[upd,List.any_append,List.any_cons,List.any_nil,Bool.or_false,h0,h1];by_cases h:a=x∧b=y
 ·obtain⟨rfl,rfl⟩:=h;simp
 ·rw[if_neg h];have:(decide ((x:Int)=(a:Int))&&decide ((y:Int)=(b:Int)))=false:=by
   simp only[Bool.and_eq_false_iff,decide_eq_false_iff_not];omega
  rw[this,Bool.or_false]
theorem aaN {o:aY} (hv:nO o=true) {p:kD} (hp:p∈o.pairs):∃ x y:Nat,p.a0=(x:Int)∧p.a1=(y:Int)∧(x:Int) < o.values∧(y:Int) < o.values∧x < 12∧y < 12:=by
 simp only[nO,and_eq_true,decide_eq_true_eq,all_eq_true]at hv;obtain⟨⟨⟨h1,h2⟩,h3⟩,h4⟩:=hv;have:=h4 p hp;simp only[M8,and_eq_true,decide_eq_true_eq]at this;refine⟨p.a0.toNat,p.a1.toNat,?_,?_,?_,?_,?_,?_⟩<;>omega
theorem EG {n:Nat} (hn:200<=n) {o:aY} (hv:nO o=true):qf n o=some (fw (eO o)):=by
 have hl:o.pairs.length<=144:=by simp only[nO,and_eq_true,decide_eq_true_eq]at hv;exact hv.1.2
 have:=dw (step:=oH o) (fun i=>((i:Int),tb fun a b=>(o.pairs.take i).any fun p=>decide (p.a0=(a:Int))&&decide (p.a1=(b:Int)))) (s:=((0:Int),List.replicate 144 false)) o.pairs.length (tb (eO o)) (by
  simp only[List.take_zero,List.any_nil,mW];rfl) (fun i hi=>by
  have e:decide ((i:Int) < (o.pairs.length:Int))=true:=by simpa using hi
  obtain⟨x,y,h0,h1,_,_,hx,hy⟩:=aaN hv (getElem_mem hi);have e2:o.pairs.take (i+1)=o.pairs.take i++[o.pairs[i]]:=by rw[take_succ_eq_append_getElem hi]
  simp only[oH,e,cond_true,bL hi,bind_some,h0,h1,tC,hx,hy,decide_true,ay (show i < 9223372036854775807 by omega)];rw[Sl _ hx hy,Xh _ hx hy,e2,afM _ x y _ h0 h1];simp only[cond_true]) (by
  have e:decide ((o.pairs.length:Int) < (o.pairs.length:Int))=false:=by simp
  simp only[oH,e,cond_false,List.take_length];rfl) n (by omega)
 unfold qf;rw[this];have e3:(eqL (fw (eO o)).l.length 144&&fP 0 (fw (eO o)).l.length (List.replicate 144 false).length)=true:=by rw[mW];exact jv _ _
 have e4:j6 (List.replicate 144 false) 0 (fw (eO o)).l=tb (eO o):=ou _ xX;simp only[bind_some,D9,e3,e4,cond_true]
open Classical in
noncomputable def tcB (e:Nat->Nat->Bool) (a b:Nat):Bool:=decide (Tc e a b)
theorem PW {e:Nat->Nat->Bool} {a b:Nat}:tcB e a b=true↔Tc e a b:=by simp[tcB]
theorem OU {n:Nat} (hn:400<=n) (m0:Nat->Nat->Bool):qg n (fw m0)=some (fw (tcB m0)):=by
 obtain⟨r,h1,h2⟩:=Ld hn m0;rw[h1];have:tb r=tb (tcB m0):=kY fun a b ha hb=>by rw[Bool.eq_iff_iff,PW];exact h2 a b ha hb
 simp only[fw,this]
open Classical in
noncomputable def Sm (o:aY):Bool:=decide (∃ a,Tc (eO o) a a)
theorem YZ {o:aY}:Sm o=true↔∃ a,Tc (eO o) a a:=by simp[Sm]
noncomputable def geO (o:aY) (a b:Nat):Bool:=tcB (eO o) a b || (decide (a=b)&&decide ((a:Int) < o.values))
def zeroM:bH:=fw fun _ _=>false
theorem Y0:(bif eqL (List.replicate 144 false).length 144&&fP 0 (List.replicate 144 false).length (List.replicate 144 false).length then (bA (sub (j6 (List.replicate 144 false) 0 (List.replicate 144 false)) 0 144)).bind fun z1=>some (z1,false)else none)=some (zeroM,false):=by simp only[mW,jv,cond_true,ou _ (jQ _),D9,bind_some];rfl
theorem Cn {n:Nat} (hn:400<=n) (o:aY):og n o=some (bif nO o&&!(Sm o)then (fw (geO o),true)else (zeroM,false)):=by
 unfold og;rw[EF (by omega),Y0];simp only[bind_some];cases hv:nO o with
 |false=>simp
 |true=>
  have hb:1<=o.values∧o.values<=12:=by simp only[nO,and_eq_true,decide_eq_true_eq]at hv;exact⟨hv.1.1.1,hv.1.1.2⟩
  simp only[Bool.not_true,cond_false,EG (show 200<=n by omega) hv,bind_some,OU hn,Bool.true_and];have e3:(eqL (fw (tcB (eO o))).l.length 144&&fP 0 (fw (tcB (eO o))).l.length (List.replicate 144 false).length)=true:=by rw[mW];exact jv _ _
  have e4:j6 (List.replicate 144 false) 0 (fw (tcB (eO o))).l=tb (tcB (eO o)):=ou _ xX;simp only[e3,e4,cond_true];have h1:=kT (l:=List.range 12) (step:=mE (fw (tcB (eO o)))) (fun i=>(i:Int)) (fun a=>tcB (eO o) a a) () (fun _=>(zeroM,false)) (fun i hi=>by
   rw[List.length_range]at hi;have e:decide ((i:Int) < 12)=true:=(by simp;omega);simp only[mE,e,cond_true,tC,hi,decide_true,e4,Ea _ hi hi,bind_some,List.getElem_range,ay (show i < 9223372036854775807 by omega)];cases tcB (eO o) i i with
   |false=>rfl
   |true=>
    have:=Y0;have e5:(eqL (List.replicate 144 false).length 144&&fP 0 (List.replicate 144 false).length (List.replicate 144 false).length)=true:=(by rw[mW];exact jv _ _);simp only[e5,cond_true]at this ⊢;rw[this];rfl) (by
   rw[List.length_range];have e:decide (((12:Nat):Int) < 12)=false:=(by decide);simp only[mE,e,cond_false]) n (by simp;omega)
  rw[show ((0:Nat):Int)=0 from rfl]at h1;rw[h1];have hs:=mq (fun a=>tcB (eO o) a a) (List.range 12);have hcy:Sm o=(List.range 12).any fun a=>tcB (eO o) a a:=by
   rw[Bool.eq_iff_iff,YZ,any_eq_true];constructor
   ·rintro⟨a,ha⟩;exact⟨a,List.mem_range.2 ha.lt.1,PW.2 ha⟩
   ·rintro⟨a,_,ha⟩;exact⟨a,PW.1 ha⟩
  rw[hcy,<- hs];cases hf:lu (fun a=>tcB (eO o) a a) (List.range 12)with
  |some i=>simp only[rU,Option.isSome_some,Bool.not_true,cond_false]
  |none=>
   simp only[fQ,Option.isSome_none,Bool.not_false,cond_true];obtain⟨m,hm⟩:∃ m:Nat,o.values=(m:Int):=⟨o.values.toNat,by omega⟩;have h2:=dw (step:=mF o) (fun i=>((i:Int),tb fun a b=>tcB (eO o) a b || (decide (a=b)&&decide (a < i)))) (s:=((0:Int),tb (tcB (eO o)))) m (tb (geO o)) (by simp) (fun i hi=>by
    have e:decide ((i:Int) < o.values)=true:=(by simp;omega);have hi12:i < 12:=(by omega);simp only[mF,e,cond_true,tC,hi12,decide_true,ay (show i < 9223372036854775807 by omega)];rw[Sl _ hi12 hi12,Xh _ hi12 hi12];simp only[cond_true];rw[kY fun a b _ _=>?_];simp only[upd];by_cases h:a=i∧b=i
    ·obtain⟨rfl,rfl⟩:=h;simp
    ·rw[if_neg h];by_cases h4:a=b
     ·subst h4;have:¬ a=i:=fun h5=>h ⟨h5,h5⟩;have e6:decide (a < i+1)=decide (a < i):=(by simp only[decide_eq_decide];omega);rw[e6]
     ·simp[h4]) (by
    have e:decide ((m:Int) < o.values)=false:=(by simp;omega);simp only[mF,e,cond_false];rw[kY fun a b _ _=>?_];simp only[geO,hm,Int.ofNat_lt]) n (by omega)
   rw[h2];have e7:(eqL (fw (geO o)).l.length 144&&fP 0 (fw (geO o)).l.length (List.replicate 144 false).length)=true:=(by rw[mW];exact jv _ _);have e8:j6 (List.replicate 144 false) 0 (fw (geO o)).l=tb (geO o):=ou _ xX;simp only[bind_some,D9,e7,e8,cond_true]
def vl (d:Nat->Nat):List Int:=(List.range 12).map fun i=>((d i:Nat):Int)
theorem M9 (d:Nat->Nat):(vl d).length=12:=by simp[vl]
theorem agT (d:Nat->Nat) {x:Nat} (hx:x < 12):(vl d)[x]? =some ((d x:Nat):Int):=by
 simp only[vl,List.getElem?_map];rw[List.getElem?_range (by omega)];rfl
theorem Y1 {d d':Nat->Nat} (h:∀ x,x < 12->d x=d' x):vl d=vl d':=by
 refine List.map_congr_left fun i hi=>?_;rw[h i (List.mem_range.1 hi)]
def Xi (d:Nat->Nat) (x v:Nat):Nat->Nat:=fun y=>if y=x then v else d y
theorem agU (d:Nat->Nat) {x:Nat} (hx:x < 12) (v:Nat):(vl d).set x ((v:Nat):Int)=vl (Xi d x v):=by
 apply List.ext_getElem?;intro i;rw[List.getElem?_set];simp only[vl,List.getElem?_map,length_map,List.length_range];by_cases hi:i < 12
 ·rw[List.getElem?_range hi];by_cases e:x=i
  ·subst e;simp[Xi,hx]
  ·rw[if_neg e];simp[Xi,show ¬ i=x from fun h=>e h.symm]
 ·rw[List.getElem?_eq_none (by simp;omega)];by_cases e:x=i
  ·omega
  ·rw[if_neg e];rfl
def vlM (d:Nat->Nat):ul:=⟨vl d,M9 d⟩
theorem ahx (d:Nat->Nat):rX (sub (vl d) 0 12)=some (vlM d):=by
 have h:sub (vl d) 0 12=vl d:=by rw[RJ,List.take_of_length_le (by rw[M9];omega)]
 unfold rX;rw[dif_pos (by rw[h];exact M9 d)];simp[vlM,h]
theorem Xj {l:List Int} (d:Nat->Nat) (h:l.length=12):j6 l 0 (vl d)=vl d:=by
 simp only[j6,List.take_zero,nil_append,Nat.zero_add,M9];rw[List.drop_of_length_le (by omega),List.append_nil]
theorem Na:(List.replicate 12 (0:Int)).length=12:=by simp
theorem Xk (d:Nat->Nat):(eqL (vl d).length 12&&fP 0 (vl d).length (List.replicate 12 (0:Int)).length)=true:=by simp[M9,eqL,fP]
theorem Xl (d:Nat->Nat) {x:Nat} (hx:x < 12):atO (vl d) 0 (x:Int)=some ((d x:Nat):Int):=by
 simp only[atO,Nat.zero_add,Int.toNat_natCast,show decide ((0:Int)<=(x:Int))=true by simp,cond_true];exact agT d hx
theorem Xm (d:Nat->Nat) {x:Nat} (hx:x < 12):(decide ((0:Int)<=(x:Int))&&fP (0+(x:Int).toNat) 1 (vl d).length)=true:=by simp only[fP,M9,Int.toNat_natCast,and_eq_true,decide_eq_true_eq];omega
theorem aaO (d:Nat->Nat) {x:Nat} (hx:x < 12) (v:Nat):List.set (vl d) (0+(x:Int).toNat) ((v:Nat):Int)=vl (Xi d x v):=by simp only[Nat.zero_add,Int.toNat_natCast];exact agU d hx v
theorem agV:List.replicate 12 (0:Int)=vl fun _=>0:=by
 apply List.ext_getElem?;intro i;simp only[vl,List.getElem?_map,List.getElem?_replicate];by_cases hi:i < 12
 ·rw[if_pos hi,List.getElem?_range hi];rfl
 ·rw[if_neg hi,List.getElem?_eq_none (by simp;omega)];rfl
def rel (e:Nat->Nat->Bool) (a x y:Nat) (d:Nat->Nat):Nat->Nat:=if e x y=true∧x≠a then Xi d x (min (d x) (d y+1))else d
def Eb (e:Nat->Nat->Bool) (a x k:Nat) (d:Nat->Nat):Nat->Nat:=(List.range' a k).foldl (fun d y=>rel e a x y d) d
def JC (e:Nat->Nat->Bool) (a k:Nat) (d:Nat->Nat):Nat->Nat:=(List.range' a k).foldl (fun d x=>Eb e a x (12 - a) d) d
def EH (e:Nat->Nat->Bool) (a k:Nat):Nat->Nat:=(List.range k).foldl (fun d _=>JC e a (12 - a) d) (fun x=>if x=a then 0 else 13)
def fF (e:Nat->Nat->Bool) (a:Nat):Nat->Nat:=EH e a 12
theorem aeG (e:Nat->Nat->Bool) (a x y:Nat) (d:Nat->Nat) (z:Nat):rel e a x y d z<=d z:=by
 unfold rel;split
 ·simp only[Xi];split
  ·rename_i h;subst h;exact Nat.min_le_left _ _
  ·exact Nat.le_refl _
 ·exact Nat.le_refl _
theorem Co {α:Type} (f:(Nat->Nat)->α->Nat->Nat) (hf:∀ d x z,f d x z<=d z):∀ (l:List α) (d:Nat->Nat) (z:Nat),l.foldl f d z<=d z
 |[],_,_=>Nat.le_refl _
 |x::l,d,z=>Nat.le_trans (Co f hf l _ z) (hf d x z)
theorem Nb (e:Nat->Nat->Bool) (a x k:Nat) (d:Nat->Nat) (z:Nat):Eb e a x k d z<=d z:=Co _ (fun d y z=>aeG e a x y d z) _ d z
theorem Nc (e:Nat->Nat->Bool) (a k:Nat) (d:Nat->Nat) (z:Nat):JC e a k d z<=d z:=Co _ (fun d x z=>Nb e a x _ d z) _ d z
theorem Y2 (e:Nat->Nat->Bool) (a k:Nat) (z:Nat):EH e a k z<=13:=by
 refine Nat.le_trans (Co _ (fun d _ z=>Nc e a _ d z) _ _ z) ?_;split<;>omega
theorem range'_succ (a k:Nat):List.range' a (k+1)=List.range' a k++[a+k]:=by rw[List.range'_concat];simp
theorem aaP {n:Nat} (hn:100<=n) (e:Nat->Nat->Bool) {a x:Nat} (ha:a < 12) (hx:x < 12) (d:Nat->Nat) (hd:∀ z,d z<=13):
 iter (qx (fw e) (a:Int) (x:Int)) n ((a:Int),vl d)=some (vl (Eb e a x (12 - a) d)):=by
 refine dw (fun i=>(((a+i:Nat):Int),vl (Eb e a x i d))) (12 - a) _ (by simp[Eb]) (fun i hi=>?_) ?_ n (by omega)
 ·have e1:decide (((a+i:Nat):Int) < 12)=true:=by simp only[decide_eq_true_eq];omega
  have h12:a+i < 12:=by omega
  generalize hD:Eb e a x i d=D;have hDle:∀ z,D z<=13:=fun z=>by rw[<- hD];exact Nat.le_trans (Nb _ _ _ _ _ _) (hd z)
  have hN:Eb e a x (i+1) d=rel e a x (a+i) D:=by rw[<- hD];simp[Eb,range'_succ,List.foldl_append]
  have hM:(fw e).l=tb e:=rfl;simp only[qx,e1,cond_true,tC,hx,h12,decide_true,hM,Ea e hx h12,bind_some,ay (show a+i < 9223372036854775807 by omega)];rw[hN,show a+(i+1)=a+i+1 by omega];cases h1:e x (a+i)with
  |false=>simp only[cond_false,bind_some,rel,h1];simp
  |true=>
   simp only[cond_true,bind_some];by_cases h2:x=a
   ·have:((x:Int) != (a:Int))=false:=(by subst h2;simp);simp only[this,cond_false,bind_some,rel];simp[h2]
   ·have:((x:Int) != (a:Int))=true:=(by simp;omega);simp only[this,cond_true,Xl D hx,Xl D h12,bind_some];have e2:min ((D x:Nat):Int) (i64.wrap (((D (a+i):Nat):Int)+1))=((min (D x) (D (a+i)+1):Nat):Int):=(by rw[ay (by have:=hDle (a+i);omega)];omega);simp only[e2,Xm D hx,aaO D hx,cond_true,bind_some];simp only[rel,h1,ne_eq,h2,not_false_eq_true,and_self,if_true]
 ·have e1:decide (((a+(12 - a):Nat):Int) < 12)=false:=by simp only[decide_eq_false_iff_not];omega
  simp only[qx,e1,cond_false]
theorem aaQ {n:Nat} (hn:100<=n) (e:Nat->Nat->Bool) {a:Nat} (ha:a < 12) (d:Nat->Nat) (hd:∀ z,d z<=13):
 iter (qy n (fw e) (a:Int)) n ((a:Int),vl d)=some (vl (JC e a (12 - a) d)):=by
 refine dw (fun i=>(((a+i:Nat):Int),vl (JC e a i d))) (12 - a) _ (by simp[JC]) (fun i hi=>?_) ?_ n (by omega)
 ·have e1:decide (((a+i:Nat):Int) < 12)=true:=by simp only[decide_eq_true_eq];omega
  simp only[qy,e1,cond_true];rw[aaP hn e ha (show a+i < 12 by omega) _ fun z=>Nat.le_trans (Nc _ _ _ _ _) (hd z)];simp only[bind_some,ay (show a+i < 9223372036854775807 by omega)];rw[show a+(i+1)=a+i+1 by omega];simp[JC,range'_succ,List.foldl_append]
 ·have e1:decide (((a+(12 - a):Nat):Int) < 12)=false:=by simp only[decide_eq_false_iff_not];omega
  simp only[qy,e1,cond_false]
theorem aaR {n:Nat} (hn:100<=n) (e:Nat->Nat->Bool) {a:Nat} (ha:a < 12):
 iter (qz n (fw e) (a:Int)) n ((0:Int),vl fun x=>if x=a then 0 else 13)=some (vl (fF e a)):=by
 refine dw (fun i=>((i:Int),vl (EH e a i))) 12 _ (by simp[EH]) (fun i hi=>?_) ?_ n (by omega)
 ·have e1:decide ((i:Int) < 12)=true:=by simp only[decide_eq_true_eq];omega
  simp only[qz,e1,cond_true];rw[aaQ hn e ha _ fun z=>Y2 _ _ _ z];simp only[bind_some,ay (show i < 9223372036854775807 by omega)];simp[EH,List.range_succ,List.foldl_append]
 ·have e1:decide (((12:Nat):Int) < 12)=false:=by decide
  simp only[qz,e1,cond_false];rfl
theorem GN {n:Nat} (hn:100<=n) (e:Nat->Nat->Bool) {a:Nat} (ha:a < 12):uE n (fw e) (a:Int)=some (vlM (fF e a)):=by
 have h1:iter qw n ((0:Int),List.replicate 12 (0:Int))=some (vl fun _=>13):=by
  refine dw (fun i=>((i:Int),vl fun x=>if x < i then 13 else 0)) 12 _ (by rw[agV];simp) (fun i hi=>?_) ?_ n (by omega)
  ·have e1:decide ((i:Int) < 12)=true:=(by simp only[decide_eq_true_eq];omega);have e2:(13:Int)=((13:Nat):Int):=rfl;simp only[qw,e1,cond_true,tC,hi,decide_true,ay (show i < 9223372036854775807 by omega),Xm _ hi];rw[e2,aaO _ hi 13];rw[Y1 fun x _=>?_];simp only[Xi];by_cases h:x=i
   ·subst h;simp
   ·rw[if_neg h];by_cases h3:x < i
    ·simp[h3,show x < i+1 by omega]
    ·simp[h3,show ¬ x < i+1 by omega]
  ·have e1:decide (((12:Nat):Int) < 12)=false:=(by decide);simp only[qw,e1,cond_false];rw[Y1 fun x hx=>?_];rw[if_pos hx]
 unfold uE;rw[h1];have e0:(0:Int)=((0:Nat):Int):=rfl;have e5:List.set (vl fun _=>13) (0+(a:Int).toNat) (0:Int)=vl fun x=>if x=a then 0 else 13:=by rw[e0,aaO _ ha 0];rfl
 have e7:(eqL (vlM (fF e a)).l.length 12&&fP 0 (vlM (fF e a)).l.length (List.replicate 12 (0:Int)).length)=true:=Xk _;have e8:j6 (List.replicate 12 (0:Int)) 0 (vlM (fF e a)).l=vl (fF e a):=Xj _ Na;simp only[bind_some,tC,ha,decide_true,cond_true,Xm _ ha,e5,aaR hn e ha,ahx,e7,e8]
inductive Wy (e:Nat->Nat->Bool) (a:Nat):Nat->Nat->Prop
 |nil:Wy e a a 0
 |step {x y k:Nat}:a<=x->x < 12->x≠a->a<=y->y < 12->e x y=true->Wy e a y k->Wy e a x (k+1)
theorem gK {a k x:Nat}:x∈List.range' a k↔a<=x∧x < a+k:=by
 rw[List.mem_range'];constructor
 ·rintro⟨i,h1,h2⟩;omega
 ·rintro⟨h1,h2⟩;exact⟨x - a,by omega,by omega⟩
theorem wU {α β:Type} (P:β->Prop) (f:β->α->β):∀ (l:List α) (b:β),P b->(∀ b,P b->∀ x∈l,P (f b x))->P (l.foldl f b)
 |[],_,h,_=>h
 |x::l,b,h,hf=>wU P f l _ (hf b h x (by simp)) fun b hb y hy=>hf b hb y (by simp[hy])
def Snd (e:Nat->Nat->Bool) (a:Nat) (d:Nat->Nat):Prop:=∀ x,d x < 13->Wy e a x (d x)
theorem afN {e:Nat->Nat->Bool} {a x y:Nat} {d:Nat->Nat} (hx:a<=x∧x < 12) (hy:a<=y∧y < 12) (h:Snd e a d):Snd e a (rel e a x y d):=by
 unfold rel;split
 ·rename_i h1;intro z hz;simp only[Xi]at hz ⊢;split at hz
  ·rename_i h2;subst h2;rw[if_pos rfl];by_cases h3:d z<=d y+1
   ·rw[Nat.min_eq_left h3]at hz ⊢;exact h z hz
   ·rw[Nat.min_eq_right (by omega)]at hz ⊢;exact .step hx.1 hx.2 h1.2 hy.1 hy.2 h1.1 (h y (by omega))
  ·rename_i h2;rw[if_neg h2];exact h z hz
 ·exact h
theorem Y3 (e:Nat->Nat->Bool) {a:Nat} (ha:a < 12) (k:Nat):Snd e a (EH e a k):=by
 refine wU _ _ _ _ (fun x hx=>?_) fun d hd _ _=>wU _ _ _ _ hd fun d hd x hx=>wU _ _ _ _ hd fun d hd y hy=>?_
 ·split at hx
  ·rename_i h;subst h;rw[if_pos rfl];exact .nil
  ·omega
 ·rw[gK]at hx hy;exact afN (by omega) (by omega) hd
theorem Y4 {α:Type} (f:(Nat->Nat)->α->Nat->Nat) (hf:∀ d x z,f d x z<=d z) (l:List α) (x:α) (hx:x∈l) (P:(Nat->Nat)->Prop) (hP:∀ d d',P d->(∀ z,d' z<=d z)->P d') (Q:(Nat->Nat)->Prop) (hQ:∀ d d',Q d->(∀ z,d' z<=d z)->Q d') (h:∀ d,P d->Q (f d x)) (d:Nat->Nat) (hd:P d):Q (l.foldl f d):=by
 obtain⟨l1,l2,rfl⟩:=List.append_of_mem hx;rw[List.foldl_append,foldl_cons];exact hQ _ _ (h _ (hP _ _ hd fun z=>Co f hf l1 d z)) fun z=>Co f hf l2 _ z
theorem Y5 (e:Nat->Nat->Bool) {a:Nat} (ha:a < 12):∀ k x j,Wy e a x j->j<=k->EH e a k x<=j:=by
 intro k
 induction k with
 |zero=>
  intro x j h hj;cases h with
  |nil=>simp[EH]
  |step=>omega
 |succ k ih=>
  intro x j h hj;have e1:EH e a (k+1)=JC e a (12 - a) (EH e a k):=by simp[EH,List.range_succ,List.foldl_append]
  rw[e1];cases h with
  |nil=>exact Nat.le_trans (Nc _ _ _ _ _) (ih _ _ .nil (by omega))
  | @step _ y j h1 h2 h3 h4 h5 h6 h7=>
   refine Y4 (fun d x=>Eb e a x (12 - a) d) (fun d x z=>Nb e a x _ d z) (List.range' a (12 - a)) x (gK.2 (by omega)) (fun d=>d y<=j) (fun d d' h h'=>Nat.le_trans (h' y) h) (fun d=>d x<=j+1) (fun d d' h h'=>Nat.le_trans (h' x) h) (fun d hd=>?_) _ (ih y j h7 (by omega));refine Y4 (fun d y=>rel e a x y d) (fun d y z=>aeG e a x y d z) (List.range' a (12 - a)) y (gK.2 (by omega)) (fun d=>d y<=j) (fun d d' h h'=>Nat.le_trans (h' y) h) (fun d=>d x<=j+1) (fun d d' h h'=>Nat.le_trans (h' x) h) (fun d hd=>?_) _ hd;simp only[rel,h6,ne_eq,h3,not_false_eq_true,and_self,if_true,Xi];omega
def Mn (e:Nat->Nat->Bool) (a x k:Nat):Prop:=Wy e a x k∧∀ j,Wy e a x j->k<=j
theorem abW {e:Nat->Nat->Bool} {a x k:Nat} (h:Mn e a x (k+1)):∃ y,a<=y∧y < 12∧e x y=true∧Mn e a y k:=by
 obtain⟨h,hm⟩:=h;cases h with
 | @step _ y _ h1 h2 h3 h4 h5 h6 h7=>
  refine⟨y,h4,h5,h6,h7,fun j hj=>?_⟩;have:=hm _ (.step h1 h2 h3 h4 h5 h6 hj);omega
theorem afO {e:Nat->Nat->Bool} {a:Nat} (ha:a < 12):∀ k x,Mn e a x k->∃ l:List Nat,l.length=k+1∧l.Nodup∧∀ y∈l,y < 12∧∃ j,j<=k∧Mn e a y j:=by
 intro k
 induction k with
 |zero=>
  intro x h;refine⟨[x],rfl,by simp,fun y hy=>?_⟩;simp only[mem_singleton]at hy;subst hy;refine⟨?_,0,Nat.le_refl _,h⟩;cases h.1;exact ha
 |succ k ih=>
  intro x h;obtain⟨y,h1,h2,h3,h4⟩:=abW h;obtain⟨l,h5,h6,h7⟩:=ih y h4;refine⟨x::l,by simp[h5],?_,fun z hz=>?_⟩
  ·rw[List.nodup_cons];refine⟨fun hx=>?_,h6⟩;obtain⟨_,j,hj,hm⟩:=h7 x hx;have:=h.2 _ hm.1;omega
  ·rcases mem_cons.1 hz with rfl |hz
   ·refine⟨?_,k+1,Nat.le_refl _,h⟩;cases h.1 with
    |step _ h=>exact h
   ·obtain⟨h8,j,hj,hm⟩:=h7 z hz;exact⟨h8,j,by omega,hm⟩
theorem Y6:∀ (N:Nat) (l:List Nat),l.Nodup->(∀ y∈l,y < N)->l.length<=N
 | 0,[],_,_=>Nat.le_refl _
 | 0,x::l,_,h=>absurd (h x (by simp)) (by omega)
 |N+1,l,hn,h=>by
  have h1:=Y6 N (l.filter fun y=>decide (y≠N)) (hn.filter _) (fun y hy=>by
   rw[List.mem_filter]at hy;have:=h y hy.1;have:=hy.2;simp only[decide_eq_true_eq]at this;omega)
  have h2:=List.length_eq_countP_add_countP (fun y=>decide (y≠N)) (l:=l);rw[List.countP_eq_length_filter]at h2;have h3:List.countP (fun a=>decide ¬(decide (a≠N)=true)) l=l.count N:=by
   rw[List.count];refine List.countP_congr fun y _=>?_;simp
  have h4:=List.nodup_iff_count.1 hn N;omega
theorem ahy {e:Nat->Nat->Bool} {a:Nat} (ha:a < 12) {k x:Nat} (h:Mn e a x k):k<=11:=by
 obtain⟨l,h1,h2,h3⟩:=afO ha k x h;have:=Y6 12 l h2 fun y hy=>(h3 y hy).1;omega
theorem ahz {e:Nat->Nat->Bool} {a:Nat}:∀ k x,Wy e a x k->∃ j,Mn e a x j:=by
 intro k
 induction k using Nat.strongRecOn with
 |ind k ih=>
  intro x h;by_cases hm:∀ j,Wy e a x j->k<=j
  ·exact⟨k,h,hm⟩
  ·simp only[Classical.not_forall,Nat.not_le]at hm;obtain⟨j,hj,hlt⟩:=hm;exact ih j hlt x hj
theorem abX (e:Nat->Nat->Bool) {a:Nat} (ha:a < 12) {x k:Nat} (h:Mn e a x k):fF e a x=k:=by
 have h1:=ahy ha h;have h2:=Y5 e ha 12 x k h.1 (by omega);have h3:=Y3 e ha 12 x (by omega);have:=h.2 _ h3;show EH e a 12 x=k;omega
theorem afP (e:Nat->Nat->Bool) {a:Nat} (ha:a < 12) {x:Nat} (h:fF e a x < 13):Mn e a x (fF e a x):=by
 obtain⟨j,hj⟩:=ahz _ _ (Y3 e ha 12 x h);rw[abX e ha hj];exact hj
def Vz (e:Nat->Nat->Bool) (d:Nat->Nat) (x:Nat) (s:Nat×Nat) (y:Nat):Nat×Nat:=if e x y=true∧d y+1 < s.1 then (d y+1,x)else s
def Xn (e:Nat->Nat->Bool) (x k:Nat) (s:Nat×Nat):Nat×Nat:=(List.range' x k).foldl (Vz e (fF e x) x) s
def EI (e:Nat->Nat->Bool) (k:Nat):Nat×Nat:=(List.range k).foldl (fun s x=>Xn e x (12 - x) s) (13,0)
theorem aaS {n:Nat} (hn:100<=n) (e:Nat->Nat->Bool) {x:Nat} (hx:x < 12) (s:Nat×Nat):
 iter (mK (fw e) (x:Int) (vlM (fF e x))) n ((s.1:Int),(s.2:Int),(x:Int))=some (((Xn e x (12 - x) s).1:Int),((Xn e x (12 - x) s).2:Int)):=by
 refine dw (fun i=>(((Xn e x i s).1:Int),((Xn e x i s).2:Int),((x+i:Nat):Int))) (12 - x) _ (by simp[Xn]) (fun i hi=>?_) ?_ n (by omega)
 ·have e1:decide (((x+i:Nat):Int) < 12)=true:=by simp only[decide_eq_true_eq];omega
  have h12:x+i < 12:=by omega
  generalize hD:Xn e x i s=D;have hN:Xn e x (i+1) s=Vz e (fF e x) x D (x+i):=by rw[<- hD];simp[Xn,range'_succ,List.foldl_append]
  have hM:(fw e).l=tb e:=rfl;have hV:j6 (List.replicate 12 (0:Int)) 0 (vlM (fF e x)).l=vl (fF e x):=Xj _ Na;have hle:=Y2 e x 12 (x+i);have hle:fF e x (x+i)<=13:=hle;simp only[mK,e1,cond_true,tC,hx,h12,decide_true,hM,hV,Ea e hx h12,Xl _ h12,bind_some,ay (show x+i < 9223372036854775807 by omega),ay (show fF e x (x+i) < 9223372036854775807 by omega)];rw[hN,show x+(i+1)=x+i+1 by omega];cases h1:e x (x+i)with
  |false=>simp only[cond_false,bind_some,Vz,h1];simp
  |true=>
   simp only[cond_true,bind_some];by_cases h2:fF e x (x+i)+1 < D.1
   ·have:decide (((fF e x (x+i)+1:Nat):Int) < (D.1:Int))=true:=(by simp only[decide_eq_true_eq];omega);simp only[this,cond_true,bind_some,Vz,h1,h2,and_self,if_true]
   ·have:decide (((fF e x (x+i)+1:Nat):Int) < (D.1:Int))=false:=(by simp only[decide_eq_false_iff_not];omega);simp only[this,cond_false,bind_some,Vz,h1,h2,and_false,if_false]
 ·have e1:decide (((x+(12 - x):Nat):Int) < 12)=false:=by simp only[decide_eq_false_iff_not];omega
  simp only[mK,e1,cond_false]
theorem aaT {n:Nat} (hn:100<=n) (e:Nat->Nat->Bool):
 iter (mM n (fw e)) n ((13:Int),(0:Int),(0:Int))=some (((EI e 12).1:Int),((EI e 12).2:Int)):=by
 refine dw (fun i=>(((EI e i).1:Int),((EI e i).2:Int),(i:Int))) 12 _ (by simp[EI]) (fun i hi=>?_) ?_ n (by omega)
 ·have e1:decide ((i:Int) < 12)=true:=by simp only[decide_eq_true_eq];omega
  have hM:(fw e).l=tb e:=rfl;have hV:(eqL (vlM (fF e i)).l.length 12&&fP 0 (vlM (fF e i)).l.length (List.replicate 12 (0:Int)).length)=true:=Xk _;simp only[mM,e1,cond_true,hM,D9,bind_some,GN hn e hi,hV,aaS hn e hi,ay (show i < 9223372036854775807 by omega)];simp[EI,List.range_succ,List.foldl_append]
 ·have e1:decide (((12:Nat):Int) < 12)=false:=by decide
  simp only[mM,e1,cond_false]
def OkC (e:Nat->Nat->Bool) (s:Nat×Nat):Prop:=s=(13,0)∨s.2 < 12∧s.1<=12∧∃ y,s.2<=y∧y < 12∧e s.2 y=true∧fF e s.2 y+1=s.1
theorem aeH (e:Nat->Nat->Bool) {k:Nat} (hk:k<=12):OkC e (EI e k):=by
 refine wU _ _ _ _ (.inl rfl) fun s hs x hx=>wU _ _ _ _ hs fun s hs y hy=>?_;rw[List.mem_range]at hx;rw[gK]at hy;unfold Vz;split
 ·rename_i h;refine .inr ⟨by show x < 12;omega,?_,y,hy.1,by omega,h.1,rfl⟩;show fF e x y+1<=12;rcases hs with rfl |⟨_,h2,_⟩
  ·have:=h.2;simp only at this;omega
  ·omega
 ·exact hs
def VA (e:Nat->Nat->Bool) (w x k:Nat):Option Nat:=(List.range' w (12 - w)).find? fun v=>e x v&&decide (fF e w v=k)
def Y7 (e:Nat->Nat->Bool) (w:Nat):Nat->Nat->List Nat
 | 0,x=>[x]
 |k+1,x=>x::match VA e w x (k+1)with
  |some v=>Y7 e w k v
  |none=>[]
def Xo (e:Nat->Nat->Bool):List Nat:=if (EI e 12).1=13 then []else Y7 e (EI e 12).2 ((EI e 12).1 - 1) (EI e 12).2
theorem Sn {e:Nat->Nat->Bool} {w x k v:Nat} (h:VA e w x k=some v):w<=v∧v < 12∧e x v=true∧fF e w v=k:=by
 have h1:=List.mem_of_find?_eq_some h;have h2:=List.find?_some h;rw[gK]at h1;simp only[and_eq_true,decide_eq_true_eq]at h2;by_cases hw:w<=12
 ·exact⟨h1.1,by omega,h2⟩
 ·omega
theorem aeI {e:Nat->Nat->Bool} {w x k y:Nat} (h1:w<=y) (h2:y < 12) (h3:e x y=true) (h4:fF e w y=k):∃ v,VA e w x k=some v:=by
 cases h:VA e w x k with
 |some v=>exact⟨v,rfl⟩
 |none=>
  unfold VA at h;rw[List.find?_eq_none]at h;exact absurd (by simp[h3,h4]) (h y (gK.2 (by omega)))
theorem aaU {p:Nat->Bool} {w k v:Nat} (h:(List.range' w k).find? p=some v):w<=v∧p v=true∧∀ i,w<=i->i < v->p i=false:=by
 have h1:=List.mem_of_find?_eq_some h;rw[gK]at h1;refine⟨h1.1,List.find?_some h,fun i hi hv=>?_⟩;rw[List.find?_eq_some_iff_append]at h;obtain⟨_,l1,l2,h2,h3⟩:=h;have h4:i∈l1:=by
  have hm:i∈List.range' w k:=gK.2 (by omega);rw[h2]at hm;rcases mem_append.1 hm with hm |hm
  ·exact hm
  ·have hp:(List.range' w k).Pairwise (· < ·):=List.pairwise_lt_range';rw[h2,pairwise_append]at hp;rcases mem_cons.1 hm with rfl |hm
   ·omega
   ·have:=(pairwise_cons.1 hp.2.1).1 i hm;omega
 have:=h3 i h4;simpa using this
theorem aaV {n:Nat} (hn:100<=n) (e:Nat->Nat->Bool) {w x v:Nat} (hx:x < 12) (b k:Nat) (hb:b<=12) (pre:List Int) (hk:pre.length+1+k=b) (hv:VA e w x k=some v):
 iter (mO (fw e) (b:Int) (vlM (fF e w))) n ((w:Int),pre++[(x:Int)])=some (pre++[(x:Int)]++[(v:Int)]):=by
 have hv2:=Sn hv;obtain⟨h1,h2,h3⟩:=aaU hv;have hM:(fw e).l=tb e:=rfl;have hV:j6 (List.replicate 12 (0:Int)) 0 (vlM (fF e w)).l=vl (fF e w):=Xj _ Na;have hlen:(pre++[(x:Int)]).length=pre.length+1:=by simp
 have hlast:at? (pre++[(x:Int)]) (((0:Nat):Int)+((pre.length:Nat):Int))=some (x:Int):=by rw[DF];simp
 have hw1:i64.wrap (((pre.length+1:Nat):Int) - 1)=((pre.length:Nat):Int):=by rw[mg (by omega) (by omega)];congr 1
 have hw2:i64.wrap ((b:Int) - ((pre.length+1:Nat):Int))=(k:Int):=by rw[dz]<;>omega
 have body:∀ i:Nat,i < 12->mO (fw e) (b:Int) (vlM (fF e w)) ((i:Int),pre++[(x:Int)])=some (bif e x i&&decide (fF e w i=k)then .inr (pre++[(x:Int)]++[(i:Int)])else .inl (((i+1:Nat):Int),pre++[(x:Int)])):=by
  intro i hi;have hin:decide (pre.length < pre.length+1)=true:=by simp
  have hs1:sub ([(i:Int)]:List Int) 0 1=[(i:Int)]:=rfl;have hap:bC (pre.length+1) (pre.length+1) 1 1 8=true:=bR (by omega) (by simp only[maxLen];omega);simp only[mO,hlen,hw1,hw2,tC,hin,hlast,cond_true,bind_some,hx,hi,decide_true,hM,hV,Ea e hx hi,Xl _ hi,hs1,length_singleton,hap,dY,aA,ay (show i < 9223372036854775807 by omega)];cases h1:e x i with
  |false=>simp only[cond_false,bind_some,Bool.false_and]
  |true=>
   have:(((fF e w i:Nat):Int)==(k:Int))=decide (fF e w i=k):=(by rw[Bool.eq_iff_iff,beq_iff_eq,decide_eq_true_eq];omega);simp only[cond_true,bind_some,Bool.true_and,this];cases decide (fF e w i=k)<;>rfl
 refine dw (fun i=>(((w+i:Nat):Int),pre++[(x:Int)])) (v - w) _ (by simp) (fun i hi=>?_) ?_ n (by omega)
 ·rw[body _ (by omega),h3 (w+i) (by omega) (by omega),show w+(i+1)=w+i+1 by omega];rfl
 ·rw[show w+(v - w)=v by omega,body _ hv2.2.1,h2];rfl
theorem Sq {m:Nat} (hm:100<=m) (e:Nat->Nat->Bool) {w:Nat} (hw:w < 12) (b:Nat) (hb:b<=12):∀ k n x (pre:List Int),k < n->x < 12->pre.length+1+k=b->(k=0∨∃ y,w<=y∧y < 12∧e x y=true∧fF e w y=k)->
 iter (mQ m (fw e) (b:Int) (w:Int) (vlM (fF e w))) n (pre++[(x:Int)])=some (pre++(Y7 e w k x).map fun i:Nat=>(i:Int))
 | 0,n,x,pre,hn,hx,hl,_=>by
  obtain⟨n,rfl⟩:∃ k,n=k+1:=⟨n - 1,by omega⟩;have e1:decide ((((pre++[(x:Int)]).length:Nat):Int) < (b:Int))=false:=by simp only[decide_eq_false_iff_not,length_append,length_singleton];omega
  refine aQ ?_;simp only[mQ,e1,cond_false,aA,cond_true,Y7,map_cons,map_nil]
 |k+1,n,x,pre,hn,hx,hl,hy=>by
  obtain⟨n,rfl⟩:∃ k,n=k+1:=⟨n - 1,by omega⟩;have e1:decide ((((pre++[(x:Int)]).length:Nat):Int) < (b:Int))=true:=by simp only[decide_eq_true_eq,length_append,length_singleton];omega
  rcases hy with hy |⟨y,h1,h2,h3,h4⟩
  ·omega
  ·obtain⟨v,hv⟩:=aeI h1 h2 h3 h4;have hv2:=Sn hv;rw[bI (v':=pre++[(x:Int)]++[(v:Int)])]
   ·rw[Sq hm e hw b hb k n v (pre++[(x:Int)]) (by omega) hv2.2.1 (by simp;omega) ?_]
    ·simp only[Y7,hv,map_cons,List.append_assoc,List.singleton_append]
    ·by_cases hk:k=0
     ·exact .inl hk
     ·refine .inr ?_;have hl:=afP e hw (x:=v) (by omega);rw[hv2.2.2.2]at hl;obtain⟨z,h5,h6,h7,h8⟩:=abW hl;exact⟨z,h5,h6,h7,by rw[abX e hw h8]⟩
   ·simp only[mQ,e1,cond_true,aA,aaV hm e hx b (k+1) hb pre hl hv,bind_some]
theorem Nf {n:Nat} (hn:100<=n) (e:Nat->Nat->Bool):tJ n (fw e)=some ((Xo e).map fun i:Nat=>(i:Int)):=by
 unfold tJ Xo;rw[aaT hn];simp only[bind_some];rcases aeH e (Nat.le_refl 12)with h |⟨h1,h2,y,h3,h4,h5,h6⟩
 ·rw[h];simp
 ·generalize EI e 12=s at h1 h2 h3 h4 h5 h6;obtain⟨b,w⟩:=s;simp only at h1 h2 h3 h4 h5 h6 ⊢;have e1:((b:Int)==13)=false:=by simp;omega
  have hM:(fw e).l=tb e:=rfl;have hV:(eqL (vlM (fF e w)).l.length 12&&fP 0 (vlM (fF e w)).l.length (List.replicate 12 (0:Int)).length)=true:=Xk _;have:=Sq hn e h1 b h2 (b - 1) n w [] (by omega) h1 (by simp;omega) (.inr ⟨y,h3,h4,h5,by omega⟩);simp only[nil_append]at this;simp only[e1,cond_false,hM,D9,bind_some,GN hn e h1,hV,cond_true,length_singleton,aA,this,bF];rw[if_neg (by omega)]
theorem Ng {l:List Bool} (h:l.length < 1099511627776):AJ l=some l:=uh (b:=1) (by omega) (by simp only[maxLen];omega)
noncomputable def EJ (o:aY):List (List Bool):=(List.range o.values.toNat).map fun a=>(List.range o.values.toNat).map fun b=>geO o a b
noncomputable def xY (o:aY):List (List Bool)×List Int×Int:=
 bif !(nO o)then ([],[],1)else bif Sm o then ([],(Xo (eO o)).map (fun i:Nat=>(i:Int)),16)else (EJ o,[],0)
theorem afQ (f:Nat->Nat->Bool) {a m:Nat} (ha:a < 12) (hm:m<=12):sub (tb f) (0+a*12) m=(List.range m).map (f a):=by
 apply List.ext_getElem?;intro i;simp only[sub,List.getElem?_take,List.getElem?_drop,List.getElem?_map];by_cases hi:i < m
 ·rw[if_pos hi,show 0+a*12+i=a*12+i by omega,PV f ha (by omega),List.getElem?_range hi];rfl
 ·rw[if_neg hi,List.getElem?_eq_none (by simp;omega)];rfl
theorem Le {n:Nat} (hn:400<=n) (o:aY):qC n o=some (xY o):=by
 unfold qC xY;rw[Cn hn,EF (by omega)];simp only[bind_some];cases hv:nO o with
 |false=>
  have e1:(eqL zeroM.l.length 144&&fP 0 zeroM.l.length (List.replicate 144 false).length)=true:=by rw[mW];exact jv (fun _ _=>false) _
  simp only[Bool.false_and,cond_false,e1,cond_true,Bool.not_false]
 |true=>
  cases hc:Sm o with
  |true=>
   have e1:(eqL zeroM.l.length 144&&fP 0 zeroM.l.length (List.replicate 144 false).length)=true:=(by rw[mW];exact jv (fun _ _=>false) _);simp only[Bool.true_and,Bool.not_true,cond_false,e1,cond_true,Bool.not_false,EG (show 200<=n by omega) hv,bind_some,Nf (show 100<=n by omega),bF,aA]
  |false=>
   have e1:(eqL (fw (geO o)).l.length 144&&fP 0 (fw (geO o)).l.length (List.replicate 144 false).length)=true:=(by rw[mW];exact jv _ _);have e2:j6 (List.replicate 144 false) 0 (fw (geO o)).l=tb (geO o):=ou _ xX;have hb:1<=o.values∧o.values<=12:=(by simp only[nO,and_eq_true,decide_eq_true_eq]at hv;exact⟨hv.1.1.1,hv.1.1.2⟩);obtain⟨m,hm⟩:∃ m:Nat,o.values=(m:Int):=⟨o.values.toNat,by omega⟩;have hz:eqL 0 ([]:List (List Bool)).length=true:=rfl;have key:iter (lD o (fw (geO o),true)) n ((0:Int),([]:List (List Bool)))=some (EJ o):=by
    refine dw (fun i=>((i:Int),(List.range i).map fun a=>(List.range m).map fun b=>geO o a b)) m _ (by simp) (fun i hi=>?_) ?_ n (by omega)
    ·have e:decide ((i:Int) < o.values)=true:=(by simp;omega);have hi12:i < 12:=(by omega);have hslok:uV 0 o.values 12=true:=BS (by omega) (by omega) (by omega);have hfit:fP (0+i*12) 12 (tb (geO o)).length=true:=(by simp only[fP,jQ,decide_eq_true_eq];omega);have hmt:o.values.toNat=m:=(by omega);have hrl:((List.range m).map (geO o i)).length=m:=(by simp);have hs1:∀ r:List Bool,sub ([r]:List (List Bool)) 0 1=[r]:=fun _=>rfl;have hap:∀ k:Nat,k < 12->bC k k 1 1 24=true:=fun k hk=>bR (by omega) (by simp only[maxLen];omega);simp only[lD,e,cond_true,tC,hi12,decide_true,e2,Int.toNat_natCast,hslok,hfit,hmt,afQ (geO o) hi12 (show m<=12 by omega),hrl,aA,Bool.and_self,Ng (l:=(List.range m).map (geO o i)) (by rw[hrl];omega),bind_some,bF,hs1,length_singleton,length_map,List.length_range,hap i hi12,dY,ay (show i < 9223372036854775807 by omega)];have e3:sub (List.map (geO o i) (List.range m)) 0 m=List.map (geO o i) (List.range m):=(by rw[RJ,List.take_of_length_le (by simp)]);simp[e3,List.range_succ]
    ·have e:decide ((m:Int) < o.values)=false:=(by simp;omega);simp only[lD,e,cond_false,aA,cond_true];simp only[EJ,hm,Int.toNat_natCast]
   simp only[Bool.not_false,Bool.and_self,cond_true,e1,Bool.not_true,cond_false,hz,key,bind_some,bF,aA]
def okO (o:aY):Prop:=nO o=true∧Sm o=false
noncomputable def ET (o:aY):Bool:=nO o&&!(Sm o)
theorem aaW {o:aY} (h:ET o=true):xY o=(EJ o,[],0):=by
 simp only[ET,and_eq_true,Bool.not_eq_true']at h;simp[xY,h.1,h.2]
theorem Y8 {o:aY} (h:ET o=false):(xY o).2.2≠0:=by
 unfold ET at h;unfold xY;cases hv:nO o with
 |false=>simp
 |true=>rw[hv]at h;simp only[Bool.true_and,Bool.not_eq_false']at h;rw[h];simp
abbrev Mx:=List (List (List Bool))
noncomputable def EK (os:List aY):Option Mx:=if os.length<=12∧os.all ET=true then some (os.map EJ)else none
def agW:Option Mx->Mx×Bool
 |some M=>(M,true)
 |none=>([],false)
theorem afR {n:Nat} (hn:400<=n) (os:List aY):qD n os=some (agW (EK os)):=by
 unfold qD EK;by_cases hl:os.length<=12
 ·have e1:decide ((os.length:Int)>12)=false:=by simp;omega
  have hz:eqL 0 ([]:Mx).length=true:=rfl;have key:=kT (l:=os) (step:=lF n os) (fun i=>((i:Int),(os.take i).map EJ)) (fun o=>!(ET o)) (os.map EJ) (fun _=>(([]:Mx),false)) (fun i hi=>by
   have e:decide ((i:Int) < (os.length:Int))=true:=(by simpa using hi);have h1:((os.take i).map EJ).length=i:=(by simp;omega);have hs1:∀ r:List (List Bool),sub ([r]:Mx) 0 1=[r]:=fun _=>rfl;have hap:bC i i 1 1 24=true:=bR (by omega) (by simp only[maxLen];omega);simp only[lF,e,cond_true,bL hi,bind_some,Le hn];cases hk:ET os[i]with
   |true=>
    simp only[aaW hk,bne_self_eq_false,cond_false,bF,aA,cond_true,h1,hs1,length_singleton,hap,dY,Bool.not_true,ay (show i < 9223372036854775807 by omega)];rw[take_succ_eq_append_getElem hi,map_append];rfl
   |false=>
    have:((xY os[i]).2.2 != 0)=true:=(by simpa using Y8 hk);simp only[this,cond_true,Bool.not_false,Option.map_some]) (by
   have e:decide ((os.length:Int) < (os.length:Int))=false:=(by simp);simp only[lF,e,cond_false,aA,cond_true,List.take_length]) n (by omega)
  simp only[List.take_zero,map_nil]at key;rw[show ((0:Nat):Int)=0 from rfl]at key;simp only[e1,cond_false,hz,cond_true,key];have hf:=Ia ET os;cases hx:lu (fun o=>!(ET o)) os with
  |some i=>rw[hx]at hf;simp only at hf;simp only[rU];rw[if_neg (by rw[<- hf];simp)];rfl
  |none=>rw[hx]at hf;simp only at hf;simp only[fQ,bF,aA,cond_true];rw[if_pos ⟨hl,hf.symm⟩];rfl
 ·have e1:decide ((os.length:Int)>12)=true:=by simp;omega
  simp only[e1,cond_true];rw[if_neg (by omega)];rfl
def VB (M:Mx) (v:List Int) (i:Nat):Bool:=match v[i]?,M[i]? with
 |some x,some R=>decide (0<=x)&&decide (x < (R.length:Int))
 |_,_=>false
def EU (M:Mx) (v:List Int):Bool:=decide (v.length=M.length)&&(List.range M.length).all (VB M v)
theorem Oy {n:Nat} (M:Mx) (v:List Int) (hn:M.length < n) (hm:M.length < 9223372036854775807):bS n M v=some (EU M v):=by
 unfold bS EU;by_cases hl:v.length=M.length
 ·have e1:((v.length:Int) != (M.length:Int))=false:=by simp;omega
  have key:=kT (l:=List.range M.length) (step:=dP M v) (fun i=>(i:Int)) (fun i=>!(VB M v i)) () (fun _=>false) (fun i hi=>by
   rw[List.length_range]at hi;have hv:i < v.length:=(by omega);have e:decide ((i:Int) < (v.length:Int))=true:=(by simpa using hv);simp only[dP,e,cond_true,bL hv,bL hi,bind_some,List.getElem_range,VB,List.getElem?_eq_getElem hv,List.getElem?_eq_getElem hi,ay (show i < 9223372036854775807 by omega)];by_cases h1:v[i] < 0
   ·have:decide (0<=v[i])=false:=(by simpa using h1);simp only[h1,this,decide_true,cond_true,bind_some,Bool.false_and,Bool.not_false,Option.map_some]
   ·have:decide (0<=v[i])=true:=(by simpa using h1);simp only[h1,this,decide_false,cond_false,bind_some,Bool.true_and];by_cases h2:v[i]>=(M[i].length:Int)
    ·have:decide (v[i] < (M[i].length:Int))=false:=(by simpa using h2);simp only[h2,this,decide_true,cond_true,Bool.not_false,Option.map_some]
    ·have:decide (v[i] < (M[i].length:Int))=true:=(by simp only[decide_eq_true_eq];omega);simp only[h2,this,decide_false,cond_false,Bool.not_true]) (by
   rw[List.length_range];have e:decide ((M.length:Int) < (v.length:Int))=false:=(by simp;omega);simp only[dP,e,cond_false]) n (by simpa using hn)
  rw[show ((0:Nat):Int)=0 from rfl]at key;simp only[e1,cond_false,key];simp only[hl,decide_true,Bool.true_and];have hf:=Ia (VB M v) (List.range M.length);cases hx:lu (fun i=>!(VB M v i)) (List.range M.length)with
  |some i=>rw[hx]at hf;simp only at hf;simp only[rU];rw[<- hf]
  |none=>rw[hx]at hf;simp only at hf;simp only[fQ];rw[<- hf]
 ·have e1:((v.length:Int) != (M.length:Int))=true:=by simp;omega
  simp[e1,hl]
theorem Y9 {V:Type} (k k':Int) (v:V):∀ l:List (Int×V),eG iEq k (qP iEq k' v l)=if k=k' then some v else eG iEq k l
 |[]=>by
  by_cases h:k=k'
  ·simp[eG,qP,iEq,h]
  ·have h':(k==k')=false:=(by simpa using h);simp[eG,qP,iEq,h,h']
 |p::r=>by
  have ih:=Y9 k k' v r;by_cases h1:k'=p.1
  ·subst h1;by_cases h2:k=p.1
   ·simp[qP,eG,iEq,h2]
   ·have h2':(k==p.1)=false:=(by simpa using h2);simp[qP,eG,iEq,h2,h2']
  ·have h1':(k'==p.1)=false:=(by simpa using h1);by_cases h2:k=p.1
   ·have h3:¬ p.1=k':=fun h=>h1 h.symm;simp[qP,eG,iEq,h1',h2,h3]
   ·have h2':(k==p.1)=false:=(by simpa using h2);simp only[qP,iEq,h1',cond_false,eG,h2'];simpa only[iEq]using ih
def Sr (l:List aL):List (Int×Bool):=l.foldl (fun m c=>qP iEq c.id true m) []
theorem aaX (k:Int) (l:List aL):(eG iEq k (Sr l)).getD false=l.any fun c=>decide (k=c.id):=by
 have main:∀ (l:List aL) (m:List (Int×Bool)),(eG iEq k (l.foldl (fun m c=>qP iEq c.id true m) m)).getD false=((l.any fun c=>decide (k=c.id)) || (eG iEq k m).getD false):=by
  intro l
  induction l with
  |nil=>intro m;simp
  |cons c l ih=>
   intro m;rw[foldl_cons,ih,Y9,List.any_cons];by_cases h:k=c.id
   ·simp[h]
   ·rw[if_neg h];simp[h]
 have:=main l [];simpa[Sr,eG]using this
def Nh (M:Mx) (base:List aL) (i:Nat):Bool:=match base[i]? with
 |some c=>!((base.take i).any fun b=>decide (c.id=b.id))&&EU M c.values
 |none=>false
def VD (M:Mx) (base:List aL):Bool:=(List.range base.length).all (Nh M base)
noncomputable def iA (os:List aY) (base:List aL):Mx×Bool:=match EK os with
 |some M=>if VD M base=true then (M,decide (base.length<=2000))else ([],false)
 |none=>([],false)
theorem Lf {os:List aY} {M:Mx} (h:EK os=some M):M.length=os.length∧os.length<=12:=by
 unfold EK at h;split at h
 ·rename_i h1;injection h with h;subst h;simp[h1.1]
 ·cases h
theorem Za {n:Nat} (hn:400<=n) (os:List aY) (base:List aL) (hb:base.length < n) (hb2:base.length < 9223372036854775807):kQ n os base=some (iA os base):=by
 unfold kQ iA;rw[afR hn];simp only[bind_some];cases hr:EK os with
 |none=>
  simp only[agW];cases hbase:base with
  |nil=>
   have h1:iter (dQ n [] (([]:Mx),false)) n ((0:Int),([]:List (Int×Bool)))=some (.inl ()):=by
    obtain⟨m,rfl⟩:∃ m,n=m+1:=⟨n - 1,by omega⟩;exact aQ rfl
   rw[h1];rfl
  |cons c r=>
   have h1:iter (dQ n (c::r) (([]:Mx),false)) n ((0:Int),([]:List (Int×Bool)))=some (.inr ([],false)):=by
    obtain⟨m,rfl⟩:∃ m,n=m+1:=⟨n - 1,by omega⟩;refine aQ ?_;have e:decide ((0:Int) < (((c::r).length:Nat):Int))=true:=(by simp only[length_cons,decide_eq_true_eq];omega);simp only[dQ,e,cond_true,afB (l:=c::r) (by simp),bind_some,Bool.not_false,Option.map_some]
   rw[h1];rfl
 |some M=>
  obtain⟨hM1,hM2⟩:=Lf hr;simp only[agW];have key:=kT (l:=List.range base.length) (step:=dQ n base (M,true)) (fun i=>((i:Int),Sr (base.take i))) (fun i=>!(Nh M base i)) () (fun _=>(([]:Mx),false)) (fun i hi=>by
   rw[List.length_range]at hi;have e:decide ((i:Int) < (base.length:Int))=true:=(by simpa using hi);simp only[dQ,e,cond_true,bL hi,bind_some,Bool.not_true,cond_false,aaX,List.getElem_range,Nh,List.getElem?_eq_getElem hi,bF,aA,Oy (n:=n) M _ (by omega) (by omega),ay (show i < 9223372036854775807 by omega)];have e4:Sr (base.take (i+1))=qP iEq base[i].id true (Sr (base.take i)):=(by rw[take_succ_eq_append_getElem hi];simp only[Sr,List.foldl_append,foldl_cons,List.foldl_nil]);rw[e4];cases (base.take i).any fun c=>decide (base[i].id=c.id)with
   |true=>simp only[cond_true,bind_some,Bool.not_true,Bool.false_and,Bool.not_false,Option.map_some]
   |false=>
    simp only[cond_false,bind_some,Bool.not_false,Bool.true_and];cases EU M base[i].values<;>rfl) (by
   rw[List.length_range];have e:decide ((base.length:Int) < (base.length:Int))=false:=(by simp);simp only[dQ,e,cond_false]) n (by simpa using hb)
  simp only[List.take_zero]at key;rw[show ((0:Nat):Int)=0 from rfl,show Sr []=[]from rfl]at key;rw[key];have hf:=Ia (Nh M base) (List.range base.length);have e5:decide ((base.length:Int)<=2000)=decide (base.length<=2000):=by simp only[decide_eq_decide];omega
  cases hx:lu (fun i=>!(Nh M base i)) (List.range base.length)with
  |some i=>rw[hx]at hf;simp only at hf;simp only[rU];rw[if_neg (by unfold VD;rw[<- hf];simp)]
  |none=>rw[hx]at hf;simp only at hf;simp only[fQ,bF,aA,cond_true,e5];rw[if_pos (by unfold VD;exact hf.symm)]
end Go.Proofs
