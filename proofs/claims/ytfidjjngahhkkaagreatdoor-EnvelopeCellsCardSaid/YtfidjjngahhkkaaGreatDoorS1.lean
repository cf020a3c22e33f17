/-
  What the printed functions of package slices and cmp come to.
-/
import Derived.Test.YtfidjjngahhkkaaGreatDoorTD2
open Go.IntKind (i64)
open Option (bind_some)
open List (map_cons mem_cons append_assoc mem_append length_take mem_map all_eq_true mem_singleton nil_append length_append getElem_mem length_cons length_map mem_iff_getElem append_nil length_drop length_nil take_succ_eq_append_getElem mem_cons_of_mem foldl_cons mem_filter any_eq_true mem_cons_self pairwise_cons drop_eq_getElem_cons length_filter_le mem_flatMap pairwise_append getElem_drop)
open Bool (and_eq_true)
namespace Go.Proofs
open Go.Gb Go.RowKit
abbrev ltI (a b:Int):Bool:=decide (a < b)
theorem NN (a b:Int):cmp_Less_int a b=some (ltI a b):=by simp[cmp_Less_int,cmp_isNaN_int]
theorem iC (a b:Int):cmp_Compare_int a b=some (if a < b then -1 else if b < a then 1 else 0):=by
 by_cases h1:a < b
 ·simp[cmp_Compare_int,cmp_isNaN_int,h1]
 ·by_cases h2:b < a
  ·simp[cmp_Compare_int,cmp_isNaN_int,h1,h2]
  ·simp[cmp_Compare_int,cmp_isNaN_int,h1,h2]
theorem SB {x:Nat} (k:Nat) (h:2 ^ k<=x):Go.Sort.bitsLen x=Go.Sort.bitsLen (x/2 ^ k)+k:=by
 have key:∀ m,Go.Sort.bitsLen x<=m+k↔Go.Sort.bitsLen (x/2 ^ k)<=m:=by
  intro m;rw[Go.Sort.bitsLen_le_iff,Go.Sort.bitsLen_le_iff,Nat.pow_add,Nat.div_lt_iff_lt_mul (Nat.two_pow_pos k)]
 have h1:=(key (Go.Sort.bitsLen (x/2 ^ k))).2 (Nat.le_refl _);have hk:k<=Go.Sort.bitsLen x:=by
  rcases Nat.lt_or_ge (Go.Sort.bitsLen x) k with hlt |hge
  ·have:=(Go.Sort.bitsLen_le_iff x (Go.Sort.bitsLen x)).1 (Nat.le_refl _);have h2:2 ^ Go.Sort.bitsLen x<=2 ^ k:=Nat.pow_le_pow_right (by omega) (by omega);omega
  ·exact hge
 have h2:=(key (Go.Sort.bitsLen x - k)).1 (by omega);omega
theorem afG {v:Nat} (h:v < 256):IntKind.u8.wrap ((v:Nat):Int)=(v:Int):=by
 simp only[IntKind.wrap,IntKind.bits,IntKind.signed,Bool.false_and,Bool.false_eq_true,if_false];omega
set_option maxRecDepth 100000 in
theorem yE {x:Nat} (hx:x < 1152921504606846976):bits_Len (x:Int)=some ((Go.Sort.bitsLen x:Nat):Int):=by
 unfold bits_Len bits_Len64;have tab:∀ v:Fin 256,TJ (⟨#[0,1,2,2,3,3,3,3,4,4,4,4,4,4,4,4,5,5,5,5,5,5,5,5,5,5,5,5,5,5,5,5,6,6,6,6,6,6,6,6,6,6,6,6,6,6,6,6,6,6,6,6,6,6,6,6,6,6,6,6,6,6,6,6,7,7,7,7,7,7,7,7,7,7,7,7,7,7,7,7,7,7,7,7,7,7,7,7,7,7,7,7,7,7,7,7,7,7,7,7,7,7,7,7,7,7,7,7,7,7,7,7,7,7,7,7,7,7,7,7,7,7,7,7,7,7,7,7,8,8,8,8,8,8,8,8,8,8,8,8,8,8,8,8,8,8,8,8,8,8,8,8,8,8,8,8,8,8,8,8,8,8,8,8,8,8,8,8,8,8,8,8,8,8,8,8,8,8,8,8,8,8,8,8,8,8,8,8,8,8,8,8,8,8,8,8,8,8,8,8,8,8,8,8,8,8,8,8,8,8,8,8,8,8,8,8,8,8,8,8,8,8,8,8,8,8,8,8,8,8,8,8,8,8,8,8,8,8,8,8,8,8,8,8,8,8,8,8,8,8,8,8,8,8,8,8]⟩) ((v.val:Nat):Int)=some ((Go.Sort.bitsLen v.val:Nat):Int):=by decide +kernel
 have k32:(decide (0<=32)&&decide (32<=IntKind.u64.bits))=true:=rfl;have k16:(decide (0<=16)&&decide (16<=IntKind.u64.bits))=true:=rfl;have k8:(decide (0<=8)&&decide (8<=IntKind.u64.bits))=true:=rfl;have step:∀ (x k s:Nat),∃ y t:Nat,((bif (decide ((x:Int)>=((2 ^ k:Nat):Int)))then some (((x/2 ^ k:Nat):Int),((s+k:Nat):Int))else some ((x:Int),(s:Int))):Option (Int×Int))=some ((y:Int),(t:Int))∧Go.Sort.bitsLen x+s=Go.Sort.bitsLen y+t∧(y < 2 ^ k∨y=x/2 ^ k)∧t<=s+k:=by
  intro x k s;by_cases h:2 ^ k<=x
  ·have c:decide ((x:Int)>=((2 ^ k:Nat):Int))=true:=(by rw[decide_eq_true_eq];omega);refine⟨x/2 ^ k,s+k,by rw[c];rfl,?_,.inr rfl,Nat.le_refl _⟩;have:=SB k h;omega
  ·have c:decide ((x:Int)>=((2 ^ k:Nat):Int))=false:=(by rw[decide_eq_false_iff_not];omega);exact⟨x,s,by rw[c];rfl,rfl,.inl (by omega),by omega⟩
 have sh:∀ (v k:Nat),((v:Int)/2 ^ ((k:Nat):Int).toNat)=((v/2 ^ k:Nat):Int):=by
  intro v k;rw[Int.toNat_natCast]
  push_cast
  rfl
 obtain⟨y1,t1,e1,b1,c1,d1⟩:=step x 32 0;obtain⟨y2,t2,e2,b2,c2,d2⟩:=step y1 16 t1;obtain⟨y3,t3,e3,b3,c3,d3⟩:=step y2 8 t2;have s1:((bif (decide ((x:Int)>=(4294967296:Int)))then bif ((decide (0<=32)&&decide (32<=IntKind.u64.bits)))then some (((x:Int)/2 ^ (32:Int).toNat),(32:Int))else none else some ((x:Int),(0:Int))):Option (Int×Int))=some ((y1:Int),(t1:Int)):=by
  rw[k32,<- e1];rw[show ((x:Int)/2 ^ (32:Int).toNat)=((x/2 ^ 32:Nat):Int)from sh x 32];rfl
 have s2:((bif (decide ((y1:Int)>=(65536:Int)))then bif ((decide (0<=16)&&decide (16<=IntKind.u64.bits)))then some (((y1:Int)/2 ^ (16:Int).toNat),(i64.wrap ((t1:Int)+16)))else none else some ((y1:Int),(t1:Int))):Option (Int×Int))=some ((y2:Int),(t2:Int)):=by
  rw[k16,<- e2];rw[show ((y1:Int)/2 ^ (16:Int).toNat)=((y1/2 ^ 16:Nat):Int)from sh y1 16,show i64.wrap ((t1:Int)+16)=((t1+16:Nat):Int)from K4 (j:=16) (by omega)];rfl
 have s3:((bif (decide ((y2:Int)>=(256:Int)))then bif ((decide (0<=8)&&decide (8<=IntKind.u64.bits)))then some (((y2:Int)/2 ^ (8:Int).toNat),(i64.wrap ((t2:Int)+8)))else none else some ((y2:Int),(t2:Int))):Option (Int×Int))=some ((y3:Int),(t3:Int)):=by
  rw[k8,<- e3];rw[show ((y2:Int)/2 ^ (8:Int).toNat)=((y2/2 ^ 8:Nat):Int)from sh y2 8,show i64.wrap ((t2:Int)+8)=((t2+8:Nat):Int)from K4 (j:=8) (by omega)];rfl
 have hy:y3 < 256:=by
  have q1:(2:Nat) ^ 32=4294967296:=rfl;have q2:(2:Nat) ^ 16=65536:=rfl;have q3:(2:Nat) ^ 8=256:=rfl;rw[q1]at c1;rw[q2]at c2;rw[q3]at c3;omega
 simp only[s1,bind_some,s2,s3];rw[afG hy,show TJ _ ((y3:Nat):Int)=_ from tab ⟨y3,hy⟩];have hb:Go.Sort.bitsLen y3<=8:=(Go.Sort.bitsLen_le_iff _ _).2 (by simpa using hy);simp only[bind_some];rw[lD (by omega),K4 (by omega)];congr 2;omega
theorem adA:Un aM:=by
 intro L h8 hL;have hb:Go.Sort.bitsLen L<=60:=(Go.Sort.bitsLen_le_iff _ _).2 (by omega);have hp:2 ^ Go.Sort.bitsLen L<=2 ^ 60:=Nat.pow_le_pow_right (by omega) hb;unfold aM;rw[lX (by omega),yE hL,bind_some];have c:(decide ((0:Int)<=((Go.Sort.bitsLen L:Nat):Int))&&decide (((Go.Sort.bitsLen L:Nat):Int)<=((IntKind.u64.bits:Nat):Int)))=true:=by
  have:((IntKind.u64.bits:Nat):Int)=64:=rfl;rw[this,and_eq_true,decide_eq_true_eq,decide_eq_true_eq];omega
 rw[c,cond_true,Int.toNat_natCast,Int.one_mul,show ((2:Int) ^ Go.Sort.bitsLen L)=((2 ^ Go.Sort.bitsLen L:Nat):Int)by push_cast;rfl,lX (by omega)]
theorem adB:QO aN:=by
 intro r hr;have c13:(decide (0<=13)&&decide (13<=IntKind.u64.bits))=true:=rfl;have c7:(decide (0<=7)&&decide (7<=IntKind.u64.bits))=true:=rfl;have c17:(decide (0<=17)&&decide (17<=IntKind.u64.bits))=true:=rfl;have sl:∀ (v k:Nat),IntKind.u64.wrap ((v:Int)*2 ^ ((k:Nat):Int).toNat)=((v*2 ^ k%18446744073709551616:Nat):Int):=by
  intro v k;rw[Int.toNat_natCast,show ((v:Int)*2 ^ k)=((v*2 ^ k:Nat):Int)by push_cast;rfl];simp only[IntKind.wrap,IntKind.bits,IntKind.signed,Bool.false_and,Bool.false_eq_true,if_false];omega
 have sr:∀ (v k:Nat),((v:Int)/2 ^ ((k:Nat):Int).toNat)=((v/2 ^ k:Nat):Int):=by
  intro v k;rw[Int.toNat_natCast];push_cast;rfl
 have ha:r ^^^ (r*2 ^ 13%18446744073709551616) < 18446744073709551616:=Nat.xor_lt_two_pow (n:=64) (by omega) (by omega);have hb:(r ^^^ (r*2 ^ 13%18446744073709551616)) ^^^ ((r ^^^ (r*2 ^ 13%18446744073709551616))/2 ^ 7) < 18446744073709551616:=Nat.xor_lt_two_pow (n:=64) (by omega) (by omega);unfold aN;rw[c13,c7,c17];simp only[cond_true];rw[show IntKind.u64.wrap ((r:Int)*2 ^ (13:Int).toNat)=((r*2 ^ 13%18446744073709551616:Nat):Int)from sl r 13,QN hr (by omega)];rw[show (((r ^^^ (r*2 ^ 13%18446744073709551616):Nat):Int)/2 ^ (7:Int).toNat)=_ from sr _ 7,QN ha (by omega)];rw[show IntKind.u64.wrap (((((r ^^^ (r*2 ^ 13%18446744073709551616)) ^^^ ((r ^^^ (r*2 ^ 13%18446744073709551616))/2 ^ 7):Nat)):Int)*2 ^ (17:Int).toNat)=_ from sl _ 17,QN hb (by omega)];rfl
theorem OL:Go.Sort.SWO ltI where
 irrefl x:=by simp[ltI]
 trans x y z h1 h2:=by simp only[ltI,decide_eq_true_eq]at *;omega
 ntrans x y z h1 h2:=by simp only[ltI,decide_eq_false_iff_not]at *;omega
theorem Uu:∀ {l m:List Int},l.Perm m->l.Pairwise (fun x y=>ltI y x=false)->m.Pairwise (fun x y=>ltI y x=false)->l=m
 |[],m,h,_,_=>(List.nil_perm.1 h).symm
 |x::l,[],h,_,_=>by have:=h.length_eq;simp at this
 |x::l,y::m,h,h1,h2=>by
  have e:x=y:=by
   rw[pairwise_cons]at h1 h2;have m1:x∈y::m:=h.mem_iff.1 mem_cons_self;have m2:y∈x::l:=h.mem_iff.2 mem_cons_self;rcases mem_cons.1 m1 with e |m1
   ·exact e
   ·rcases mem_cons.1 m2 with e |m2
    ·exact e.symm
    ·have a:=h1.1 y m2;have b:=h2.1 x m1;simp only[ltI,decide_eq_false_iff_not]at a b;omega
  subst e;rw[pairwise_cons]at h1 h2;rw[Uu (List.Perm.cons_inv h) h1.2 h2.2]
theorem Eh {α:Type} (lt:α->α->Bool) (x:α):∀ ys:List α,(jC lt x ys).Perm (x::ys)
 |[]=>List.Perm.refl _
 |y::ys=>by
  simp only[jC];cases lt x y with
  |true=>exact ((Eh lt x ys).cons y).trans (List.Perm.swap x y ys)
  |false=>exact List.Perm.refl _
theorem QY {α:Type} (lt:α->α->Bool) (l:List α):(iT lt l).Perm l:=by
 have gen:∀ (xs rs:List α),(xs.foldl (fun rs x=>jC lt x rs) rs).Perm (xs++rs):=by
  intro xs
  induction xs with
  |nil=>intro rs;exact List.Perm.refl _
  |cons x xs ih=>
   intro rs;refine (ih _).trans ?_;refine ((Eh lt x rs).append_left xs).trans ?_;exact List.perm_middle
 unfold iT;exact (List.reverse_perm _).trans (by simpa using gen l [])
theorem insRev_sorted {α:Type} {lt:α->α->Bool} (hS:Go.Sort.SWO lt) (x:α):∀ ys:List α,ys.Pairwise (fun a b=>lt a b=false)->(jC lt x ys).Pairwise fun a b=>lt a b=false
 |[],_=>by simp[jC]
 |y::ys,h=>by
  have h':=pairwise_cons.1 h;simp only[jC];cases hxy:lt x y with
  |true=>
   rw[cond_true,pairwise_cons];refine⟨fun z hz=>?_,insRev_sorted hS x ys h'.2⟩;rcases mem_cons.1 ((Eh lt x ys).mem_iff.1 hz)with rfl |hz
   ·cases hyx:lt y z with
    |false=>rfl
    |true=>have:=hS.trans _ _ _ hxy hyx;rw[hS.irrefl]at this;cases this
   ·exact h'.1 z hz
  |false=>
   rw[cond_false,pairwise_cons];refine⟨fun z hz=>?_,h⟩;rcases mem_cons.1 hz with rfl |hz
   ·exact hxy
   ·exact hS.ntrans _ _ _ hxy (h'.1 z hz)
theorem isort_sorted {α:Type} {lt:α->α->Bool} (hS:Go.Sort.SWO lt) (l:List α):(iT lt l).Pairwise fun x y=>lt y x=false:=by
 have gen:∀ (xs rs:List α),rs.Pairwise (fun a b=>lt a b=false)->(xs.foldl (fun rs x=>jC lt x rs) rs).Pairwise fun a b=>lt a b=false:=by
  intro xs
  induction xs with
  |nil=>intro rs h;exact h
  |cons x xs ih=>intro rs h;exact ih _ (insRev_sorted hS x rs h)
 unfold iT;rw[List.pairwise_reverse];exact gen l [] List.Pairwise.nil
theorem ab4 (l:List Int):wJ ltI l=iT ltI l:=
 Uu ((BL OL l).trans (QY ltI l).symm) (BM OL l) (isort_sorted OL l)
theorem X8 (n:Nat):∀ m,dW n m=fB cmp_Less_int (fun r=>r) aM aN n m
 | 0=>rfl
 |m+1=>by
  show jE n (dW n m)=iy cmp_Less_int (fun r=>r) aM aN n (fB cmp_Less_int (fun r=>r) aM aN n m);rw[X8 n m];generalize fB cmp_Less_int (fun r=>r) aM aN n m=rc
  kernel_rfl
theorem lK {n:Nat} {l:List Int} (hl:l.length < 1099511627776) (hn:l.length < n):jR n l=some (iT ltI l):=by
 unfold jR kN;rw[lX (by omega),yE (by omega),X8];simp only[bind_some,aC,cond_true];rw[wK (lt:=ltI) OL (f:=ltI) (q:=fun r=>r) NN (fun _ _=>rfl) adA adB (by omega) hn hn,ab4];rfl
theorem kS {n:Nat} {l:List Int} (hl:l.length < 1099511627776) (hn:l.length < n):jF n l=some ((),dP l):=by
 rw[<- X5];exact Sz (eq:=fun x y=>x==y) (ne:=fun x y=>x != y) (fun x y=>by simp[bne]) hl hn
theorem K8 {l:List aj} (h:l.length < 1099511627776):rO l=some l:=Nb (b:=32) (by omega) (by simp only[maxLen];omega)
theorem JE {n:Nat} {l:List (List aj)} (hf:l.flatten.length < 1099511627776) (hl:l.length < 1099511627776) (hn:l.length < n):wM n l=some l.flatten:=VJ (aj.mk 0 0 0 0) (b:=32) hf (by omega) hl hn
theorem K9 {n:Nat} {a b:List aj} (hl:a.length < 1099511627776) (hn:a.length < n):kL n a b=some (decide (a=b)):=by
 have e:kL n a b=Je n (fun x1 x2:aj=>!((x1.x0==(x2.x0:Int))&&((x1.y0==(x2.y0:Int))&&((x1.x1==(x2.x1:Int))&&((x1.y1==(x2.y1:Int))&&true))))) a b:=by kernel_rfl
 rw[e];refine DY (fun x y=>?_) hl hn;obtain⟨a,b,c,d⟩:=x;obtain⟨e,f,g,h⟩:=y;simp only[aj.mk.injEq,Bool.and_true];rw[Bool.eq_iff_iff];simp
theorem Aq {n:Nat} {a b:List aA} (hl:a.length < 1099511627776) (hn:a.length < n):rP n a b=some (decide (a=b)):=by
 have e:rP n a b=Je n (fun x1 x2:aA=>!((x1.from_==(x2.from_:Int))&&((x1.to==(x2.to:Int))&&true))) a b:=by kernel_rfl
 rw[e];refine DY (fun x y=>?_) hl hn;obtain⟨a,b⟩:=x;obtain⟨c,d⟩:=y;simp only[aA.mk.injEq,Bool.and_true];rw[Bool.eq_iff_iff];simp
abbrev ltS (a b:aA):Bool:=decide (a.from_ < b.from_)
theorem JF:Go.Sort.SWO ltS where
 irrefl x:=by simp[ltS]
 trans x y z h1 h2:=by simp only[ltS,decide_eq_true_eq]at *;omega
 ntrans x y z h1 h2:=by simp only[ltS,decide_eq_false_iff_not]at *;omega
instance:Inhabited aA:=⟨⟨0,0⟩⟩
theorem ab5 (n:Nat) (rc:List aA->Int->Int->Int->((aA×aA×Unit)->Option Int)->Option (List aA)) (φ:(aA×aA×Unit)->Option Int) (l:List aA) (a b d:Int):fE n rc l a b d φ=iy (fun x y=>φ (x,y,())) (fun r=>decide (r < 0)) aM aN n (fun l a b d=>rc l a b d φ) l a b d:=by kernel_rfl
theorem Uv (n:Nat) (φ:(aA×aA×Unit)->Option Int):∀ m l a b d,bW n m l a b d φ=fB (fun x y=>φ (x,y,())) (fun r=>decide (r < 0)) aM aN n m l a b d
 | 0,l,a,b,d=>rfl
 |m+1,l,a,b,d=>by
  have e:(fun l a b d=>bW n m l a b d φ)=fB (fun x y=>φ (x,y,())) (fun r=>decide (r < 0)) aM aN n m:=by
   funext l a b d;exact Uv n φ m l a b d
  show fE n (bW n m) l a b d φ=iy (fun x y=>φ (x,y,())) (fun r=>decide (r < 0)) aM aN n (fB (fun x y=>φ (x,y,())) (fun r=>decide (r < 0)) aM aN n m) l a b d;rw[<- e];exact ab5 n (bW n m) φ l a b d
theorem FL {n:Nat} {l:List aA} {φ:(aA×aA×Unit)->Option Int} (f:aA->aA->Int) (hφ:∀ x y,φ (x,y,())=some (f x y)) (hf:∀ x y,decide (f x y < 0)=ltS x y) (hl:l.length < 1099511627776) (hn:l.length < n):lY n l φ=some (wJ ltS l):=by
 unfold lY j4;rw[lX (by omega),yE (by omega)];simp only[bind_some,aC,cond_true,Uv];rw[wK (lt:=ltS) JF (f:=f) (q:=fun r=>decide (r < 0)) hφ hf adA adB (by omega) hn hn];rfl
def mrg (out:List aA) (s:aA):List aA:=
 match out.getLast? with
 |some q=>bif decide (s.from_<=q.to)then out.dropLast++[⟨q.from_,max q.to s.to⟩]else out++[s]
 |none=>[s]
theorem QZ (out:List aA) (s:aA):(mrg out s).length<=out.length+1:=by
 unfold mrg;cases out.getLast? with
 |none=>simp
 |some q=>simp only;cases decide (s.from_<=q.to)<;>simp<;>omega
theorem aad (o:List aA) (q s:aA):mrg (o++[q]) s=bif decide (s.from_<=q.to)then o++[⟨q.from_,max q.to s.to⟩]else o++[q]++[s]:=by simp[mrg]
abbrev OkS (s:aA):Prop:=s.from_ < s.to
def inS (l:List aA) (y:Int):Bool:=l.any fun s=>decide (s.from_<=y)&&decide (y < s.to)
def Can (l:List aA):Prop:=l.Pairwise (fun a b=>a.to < b.from_)∧∀ s∈l,OkS s
theorem rW (l:List aA) (y:Int):inS l y=true↔∃ s∈l,s.from_<=y∧y < s.to:=by simp[inS]
theorem lM (l m:List aA) (y:Int):inS (l++m) y=(inS l y || inS m y):=by simp[inS]
theorem vD (y:Int):inS [] y=false:=rfl
theorem jO (s:aA) (l:List aA) (y:Int):inS (s::l) y=((decide (s.from_<=y)&&decide (y < s.to)) || inS l y):=by simp[inS]
theorem Q0 {l m:List aA} (h:l.Perm m) (y:Int):inS l y=inS m y:=by
 rw[Bool.eq_iff_iff,rW,rW];exact⟨fun ⟨s,hs,h1⟩=>⟨s,h.mem_iff.1 hs,h1⟩,fun⟨s,hs,h1⟩=>⟨s,h.mem_iff.2 hs,h1⟩⟩
theorem yF:Can []:=⟨List.Pairwise.nil,by simp⟩
theorem adC {out:List aA} {s:aA} (hc:Can out) (hs:OkS s) (hb:∀ o∈out,o.from_<=s.from_):
 Can (mrg out s)∧(∀ o∈mrg out s,o.from_<=s.from_)∧∀ y,inS (mrg out s) y=(inS out y || inS [s] y):=by
 rcases List.eq_nil_or_concat out with rfl |⟨o,q,rfl⟩
 ·refine⟨⟨by simp[mrg],by simp[mrg];exact hs⟩,by simp[mrg],fun y=>by simp[mrg,inS]⟩
 ·rw[List.concat_eq_append]at*;obtain⟨h1,h2⟩:=hc;rw[pairwise_append]at h1;obtain⟨p1,_,p3⟩:=h1;have hq:OkS q:=h2 q (by simp);have hqs:q.from_<=s.from_:=hb q (by simp);rw[aad];by_cases hj:s.from_<=q.to
  ·simp only[hj,decide_true,cond_true];refine⟨⟨?_,?_⟩,?_,?_⟩
   ·rw[pairwise_append];refine⟨p1,by simp,fun a ha b hb'=>?_⟩;rw[mem_singleton]at hb';subst hb';exact p3 a ha q (by simp)
   ·intro a ha;rcases mem_append.1 ha with ha |ha
    ·exact h2 a (by simp[ha])
    ·rw[mem_singleton]at ha;subst ha;show q.from_ < max q.to s.to;have:q.from_ < q.to:=hq;omega
   ·intro a ha;rcases mem_append.1 ha with ha |ha
    ·exact hb a (by simp[ha])
    ·rw[mem_singleton]at ha;subst ha;exact hqs
   ·intro y;rw[lM,lM,Bool.or_assoc];congr 1;simp only[jO,vD,Bool.or_false];rw[Bool.eq_iff_iff];simp only[and_eq_true,Bool.or_eq_true,decide_eq_true_eq];have:q.from_ < q.to:=hq;have:s.from_ < s.to:=hs;omega
  ·simp only[hj,decide_false,cond_false];refine⟨⟨?_,?_⟩,?_,?_⟩
   ·rw[pairwise_append];refine⟨?_,by simp,fun a ha b hb'=>?_⟩
    ·rw[pairwise_append];exact⟨p1,by simp,p3⟩
    ·rw[mem_singleton]at hb';subst hb';rcases mem_append.1 ha with ha |ha
     ·have:=p3 a ha q (by simp);have:q.from_ < q.to:=hq;omega
     ·rw[mem_singleton]at ha;subst ha;omega
   ·intro a ha;rcases mem_append.1 ha with ha |ha
    ·exact h2 a ha
    ·rw[mem_singleton]at ha;subst ha;exact hs
   ·intro a ha;rcases mem_append.1 ha with ha |ha
    ·exact hb a ha
    ·rw[mem_singleton]at ha;subst ha;exact Int.le_refl _
   ·intro y;rw[lM]
theorem La:∀ (l out:List aA),Can out->(∀ s∈l,OkS s)->l.Pairwise (fun x y=>x.from_<=y.from_)->(∀ o∈out,∀ s∈l,o.from_<=s.from_)->Can (l.foldl mrg out)∧∀ y,inS (l.foldl mrg out) y=(inS out y || inS l y)
 |[],out,hc,_,_,_=>⟨hc,fun y=>by simp[vD]⟩
 |s::l,out,hc,hv,hp,hb=>by
  rw[pairwise_cons]at hp;obtain⟨m1,m2,m3⟩:=adC hc (hv s (by simp)) (fun o ho=>hb o ho s (by simp));obtain⟨f1,f2⟩:=La l (mrg out s) m1 (fun t ht=>hv t (by simp[ht])) hp.2 (fun o ho t ht=>Int.le_trans (m2 o ho) (hp.1 t ht));refine⟨f1,fun y=>?_⟩;rw[foldl_cons,f2,m3,Bool.or_assoc,<- lM];rfl
theorem X9 {a:aA} {l:List aA} (h:Can (a::l)):Can l:=⟨(pairwise_cons.1 h.1).2,fun s hs=>h.2 s (by simp[hs])⟩
theorem FD {a:aA} {l:List aA} (h:Can (a::l)) {y:Int} (hy:inS l y=true):a.to < y:=by
 obtain⟨s,hs,h1,_⟩:=(rW _ _).1 hy;have:=(pairwise_cons.1 h.1).1 s hs;omega
theorem Uw {a:aA} {l:List aA} (h:Can (a::l)) {y:Int} (hy:inS (a::l) y=true):a.from_<=y:=by
 rw[jO,Bool.or_eq_true]at hy;rcases hy with hy |hy
 ·simp only[and_eq_true,decide_eq_true_eq]at hy;exact hy.1
 ·have:=FD h hy;have:a.from_ < a.to:=h.2 a (by simp);omega
theorem ow:∀ {l m:List aA},Can l->Can m->(∀ y,inS l y=inS m y)->l=m
 |[],[],_,_,_=>rfl
 |[],b::m,_,hm,h=>by
  have:=h b.from_;have hb:b.from_ < b.to:=hm.2 b (by simp);rw[vD,jO]at this;simp[hb]at this
 |a::l,[],hl,_,h=>by
  have:=h a.from_;have ha:a.from_ < a.to:=hl.2 a (by simp);rw[vD,jO]at this;simp[ha]at this
 |a::l,b::m,hl,hm,h=>by
  have ha:a.from_ < a.to:=hl.2 a (by simp);have hb:b.from_ < b.to:=hm.2 b (by simp);have ina:inS (a::l) a.from_=true:=by rw[jO];simp[ha]
  have inb':inS (b::m) b.from_=true:=by rw[jO];simp[hb]
  have e1:a.from_=b.from_:=by
   have h1:=Uw hm (by rw[<- h];exact ina);have h2:=Uw hl (by rw[h];exact inb');omega
  have nl:∀ (c:aA) (k:List aA),Can (c::k)->inS (c::k) c.to=false:=by
   intro c k hk;cases hc:inS (c::k) c.to with
   |false=>rfl
   |true=>
    rw[jO,Bool.or_eq_true]at hc;rcases hc with hc |hc
    ·simp at hc
    ·have:=FD hk hc;omega
  have e2:a.to=b.to:=by
   rcases Int.lt_trichotomy a.to b.to with hlt |he |hlt
   ·have h1:=nl a l hl;rw[h,jO]at h1;simp only[Bool.or_eq_false_iff,Bool.and_eq_false_iff,decide_eq_false_iff_not]at h1;omega
   ·exact he
   ·have h1:=nl b m hm;rw[<- h,jO]at h1;simp only[Bool.or_eq_false_iff,Bool.and_eq_false_iff,decide_eq_false_iff_not]at h1;omega
  have e:a=b:=by cases a;cases b;simp only at e1 e2;rw[e1,e2]
  subst e;rw[ow (X9 hl) (X9 hm) fun y=>?_];have hy:=h y;rw[jO,jO]at hy;cases h1:inS l y with
  |true=>
   have:=FD hl h1;have z:(decide (a.from_<=y)&&decide (y < a.to))=false:=(by rw[Bool.and_eq_false_iff,decide_eq_false_iff_not,decide_eq_false_iff_not];omega);rw[z,h1,Bool.false_or,Bool.false_or]at hy;rw[<- hy]
  |false=>
   cases h2:inS m y with
   |false=>rfl
   |true=>
    have:=FD hm h2;have z:(decide (a.from_<=y)&&decide (y < a.to))=false:=(by rw[Bool.and_eq_false_iff,decide_eq_false_iff_not,decide_eq_false_iff_not];omega);rw[z,h1,h2]at hy;simp at hy
def Ya (l:List aA):List aA:=(iT ltS l).foldl mrg []
theorem adD {l:List aA} (h:l.Pairwise fun x y=>ltS y x=false):l.Pairwise fun x y=>x.from_<=y.from_:=
 h.imp fun {x y} hxy=>by simp only[ltS,decide_eq_false_iff_not]at hxy;omega
theorem Lb {l:List aA} (h:∀ s∈l,OkS s):Can (Ya l)∧∀ y,inS (Ya l) y=inS l y:=by
 have hp:=QY ltS l;obtain⟨h1,h2⟩:=La (iT ltS l) [] yF (fun s hs=>h s (hp.mem_iff.1 hs)) (adD (isort_sorted JF l)) (by simp);exact⟨h1,fun y=>by rw[Ya,h2,vD,Bool.false_or,Q0 hp]⟩
theorem ab6 {l:List aA} (h:∀ s∈l,OkS s):(wJ ltS l).foldl mrg []=Ya l:=by
 have hp:=BL JF l;obtain⟨h1,h2⟩:=La (wJ ltS l) [] yF (fun s hs=>h s (hp.mem_iff.1 hs)) (adD (BM JF l)) (by simp);obtain⟨h3,h4⟩:=Lb h;exact ow h1 h3 fun y=>by rw[h2,vD,Bool.false_or,Q0 hp,h4]
theorem Yb (l:List aA):(Ya l).length<=l.length:=by
 have:∀ (ys out:List aA),(ys.foldl mrg out).length<=out.length+ys.length:=by
  intro ys
  induction ys with
  |nil=>intro out;simp
  |cons y ys ih=>
   intro out;simp only[foldl_cons,length_cons];have:=ih (mrg out y);have:=QZ out y;omega
 have h:=this (iT ltS l) [];rw[bJ]at h;simpa[Ya]using h
abbrev OkR (r:aj):Bool:=decide (0<=r.x0)&&(decide (r.x0 < r.x1)&&(decide (r.x1<=1048576)&&(decide (0<=r.y0)&&(decide (r.y0 < r.y1)&&decide (r.y1<=1048576)))))
theorem Lc (a b:Bool):(bif a then some b else some false)=some (a&&b):=by cases a<;>rfl
theorem oz (r:aj):uZ r=some (OkR r):=by simp only[uZ,Lc]
def bH (l:List aj) (x:Int):List aA:=(l.filter fun r=>decide (r.x0<=x)&&decide (x < r.x1)).map fun r=>⟨r.y0,r.y1⟩
def bG (l:List aj) (x:Int):List aA:=Ya (bH l x)
theorem wS (l:List aj) (x:Int):(bH l x).length<=l.length:=by simp only[bH,length_map];exact length_filter_le _ _
theorem Ei (l:List aj) (x:Int):(bG l x).length<=l.length:=
 Nat.le_trans (Yb _) (wS l x)
theorem agd {r:aj} (h:OkR r=true):r.y0 < r.y1:=by simp only[OkR,and_eq_true,decide_eq_true_eq]at h;omega
theorem He {l:List aj} (h:∀ r∈l,OkR r=true) (x:Int):∀ s∈bH l x,OkS s:=by
 intro s hs;simp only[bH,mem_map,mem_filter]at hs;obtain⟨r,⟨hr,_⟩,rfl⟩:=hs;exact agd (h r hr)
theorem Ld {l:List aj} {x:Int} (hl:l.length < 1099511627776) {n:Nat} (hn:l.length < n):iter (pO l x) n ((0:Int),([]:List aA))=some (bH l x):=by
 have:=bC (l:=l) (step:=pO l x) (fun i (s:List aA)=>((i:Int),s)) (fun r s=>bif decide (r.x0<=x)&&decide (x < r.x1)then s++[⟨r.y0,r.y1⟩]else s) (fun s=>s) (fun i s=>s.length<=i)
  (fun i hi s hs=>?_) (fun s hs=>by simp[pO]) n hn [] (Nat.le_refl _)
 ·rw[show ((0:Nat):Int)=0 from rfl]at this;rw[this];congr 1;have gen:∀ (ys:List aj) (s:List aA),ys.foldl (fun s r=>bif decide (r.x0<=x)&&decide (x < r.x1)then s++[⟨r.y0,r.y1⟩]else s) s=s++bH ys x:=by
   intro ys
   induction ys with
   |nil=>intro s;simp[bH]
   |cons y ys ih=>
    intro s;simp only[foldl_cons,ih];cases h:(decide (y.x0<=x)&&decide (x < y.x1))with
    |true=>simp[bH,h]
    |false=>simp[bH,h]
  simpa using gen l []
 ·have hi':decide (((i:Nat):Int) < (l.length:Int))=true:=by simpa using hi
  have ap:bI s.length s.length (sub ([(aA.mk l[i].y0 l[i].y1)]:List aA) 0 1).length 1 16=true:=bB (n:=1) (by omega) (by simp only[maxLen];omega);simp only[pO,hi',cond_true,bn hi,bind_some,Lc];cases h:(decide (l[i].x0<=x)&&decide (x < l[i].x1))with
  |true=>
   simp only[cond_true,ap,dG,aC,bind_some];refine⟨?_,by simp;omega⟩;rw[ay (by omega)];rfl
  |false=>
   simp only[cond_false,aC,cond_true,bind_some];exact⟨by rw[ay (by omega)],by omega⟩
theorem Le {n:Nat} (w1 r2:List aA) (hw:w1.length=r2.length) (hl:r2.length < 1099511627776) (hn:r2.length < n):iter (pQ w1 r2) n ((0:Int),([]:List aA))=some (r2.foldl mrg []):=by
 have:=bC (l:=r2) (step:=pQ w1 r2) (fun i (s:List aA)=>((i:Int),s)) (fun r s=>mrg s r) (fun s=>s) (fun i s=>s.length<=i)
  (fun i hi s hs=>?_) (fun s hs=>by simp[pQ,hw]) n hn [] (Nat.le_refl _)
 ·rw[show ((0:Nat):Int)=0 from rfl]at this;exact this
 ·refine⟨?_,by have:=QZ s r2[i];omega⟩;have hi':decide (((i:Nat):Int) < ((w1.length:Nat):Int))=true:=by simp;omega
  have ib:inb (i:Int) w1.length=true:=bq (by omega);have ap:bI s.length s.length (sub ([r2[i]]:List aA) 0 1).length 1 16=true:=bB (n:=1) (by omega) (by simp only[maxLen];omega);simp only[pQ,hi',cond_true,ib,bZ hi,bind_some];rcases List.eq_nil_or_concat s with rfl |⟨s0,q,hsq⟩
  ·have d0:decide (((([]:List aA).length:Nat):Int)>0)=false:=(by simp);simp only[d0,cond_false,bind_some,ap,cond_true,dG,aC];rw[ay (by omega)];rfl
  ·rw[List.concat_eq_append]at hsq;subst hsq;have d0:decide (((((s0++[q]).length:Nat):Int))>0)=true:=(by simp<;>omega);have lenq:(s0++[q]).length=s0.length+1:=(by simp);have wp:i64.wrap ((((s0++[q]).length:Nat):Int) - 1)=((s0.length:Nat):Int):=(by rw[kI (by simp) (by omega),lenq];rfl);have ib2:inb ((s0.length:Nat):Int) (s0++[q]).length=true:=bq (by omega);have g:at? (s0++[q]) (((0:Nat):Int)+((s0.length:Nat):Int))=some q:=(by rw[rM];simp);have z:(((0:Nat):Int)+((s0.length:Nat):Int)).toNat=s0.length:=(by simp);have st:(s0++[q]).set s0.length (aA.mk q.from_ (max q.to r2[i].to))=s0++[⟨q.from_,max q.to r2[i].to⟩]:=(by simp);have m:mrg (s0++[q]) r2[i]=bif decide (r2[i].from_<=q.to)then s0++[⟨q.from_,max q.to r2[i].to⟩]else s0++[q]++[r2[i]]:=(by simp[mrg]);simp only[d0,cond_true,wp,ib2,g,bind_some,m,z,st];cases decide (r2[i].from_<=q.to)with
   |true=>
    have e:eqL (s0++[q]).length (s0++[(⟨q.from_,max q.to r2[i].to⟩:aA)]).length=true:=(by simp);simp only[cond_true,e,bind_some,aC];rw[ay (by omega)]
   |false=>
    simp only[cond_false,ap,cond_true,dG,aC,bind_some];rw[ay (by omega)];rfl
theorem V3 {n:Nat} {l:List aj} {x:Int} (hv:∀ r∈l,OkR r=true) (hl:l.length < 1099511627776) (hn:l.length < n):Fv n l x=some (bG l x):=by
 have h1:=wS l x;have h2:(wJ ltS (bH l x)).length=(bH l x).length:=Jk JF _;unfold Fv;simp only[length_nil,aC,cond_true,Ld (x:=x) (l:=l) (by omega) (n:=n) (by omega),bind_some];rw[FL (fun a b=>if a.from_ < b.from_ then -1 else if b.from_ < a.from_ then 1 else 0) (fun a b=>by show vg a b=_;unfold vg;rw[iC];rfl) (fun a b=>by
  by_cases h1:a.from_ < b.from_
  ·simp[h1]
  ·by_cases h2:b.from_ < a.from_<;>simp[h1,h2]) (by omega) (by omega)]
 simp only[bind_some];rw[Le _ _ h2.symm (by omega) (by omega)];simp only[bind_some,bE,aC,cond_true];rw[ab6 (He hv x)];rfl
def aL (l:List aj):List Int:=abV (l.flatMap fun r=>[r.x0,r.x1])
def mY {α:Type} (f:Int->Int->α):List Int->List α
 |a::b::l=>f a b::mY f (b::l)
 |_=>[]
def aJ (l:List aj):List aI:=mY (fun a b=>⟨a,b,bG l a⟩) (aL l)
theorem oC {α:Type} (f:Int->Int->α):∀ (l:List Int),(mY f l).length=l.length - 1∧∀ i (h:i+1 < l.length) (h':i < (mY f l).length),(mY f l)[i]=f l[i] l[i+1]
 |[]=>⟨rfl,fun i h=>by simp at h⟩
 |[a]=>⟨rfl,fun i h=>by simp at h⟩
 |a::b::l=>by
  obtain⟨h1,h2⟩:=oC f (b::l);refine⟨by simp only[mY,length_cons,h1];simp,fun i h h'=>?_⟩;cases i with
  |zero=>rfl
  |succ i=>
   simp only[mY,List.getElem_cons_succ];exact h2 i (by simpa using h) _
theorem jd (l:List aj):(l.flatMap fun r=>[r.x0,r.x1]).length=2*l.length:=by
 induction l with
 |nil=>rfl
 |cons x l ih=>simp only[List.flatMap_cons,length_append,ih,length_cons,length_nil];omega
theorem nV (l:List Int):(dP l).length<=l.length:=by
 match l with
 |[]=>simp[dP]
 |[x]=>simp[dP]
 |x::y::l=>
  have:=nV (y::l);simp only[dP];cases x==y<;>simp at* <;>omega
theorem y9 (l:List aj):(aL l).length<=2*l.length:=by
 have h:=nV (iT (fun a b=>decide (a < b)) (l.flatMap fun r=>[r.x0,r.x1]));rw[bJ,jd]at h;exact h
theorem Lf {n:Nat} {l:List aj} (hl:l.length < 10995116277) (hn:l.length < n):iter (pR l) n ((0:Int),([]:List Int))=some (l.flatMap fun r=>[r.x0,r.x1]):=by
 have:=bC (l:=l) (step:=pR l) (fun i (s:List Int)=>((i:Int),s)) (fun r s=>s++[r.x0,r.x1]) (fun s=>s) (fun i s=>s.length<=2*i)
  (fun i hi s hs=>?_) (fun s hs=>by simp[pR]) n hn [] (Nat.le_refl _)
 ·rw[show ((0:Nat):Int)=0 from rfl]at this;rw[this];have gen:∀ (ys:List aj) (s:List Int),ys.foldl (fun s r=>s++[r.x0,r.x1]) s=s++ys.flatMap fun r=>[r.x0,r.x1]:=by
   intro ys
   induction ys with
   |nil=>intro s;simp
   |cons y ys ih=>intro s;simp[ih]
  congr 1;simpa using gen l []
 ·have hi':decide (((i:Nat):Int) < ((l.length:Nat):Int))=true:=by simpa using hi
  have ap:bI s.length s.length (sub ([l[i].x0,l[i].x1]:List Int) 0 2).length 2 8=true:=bB (n:=2) (by omega) (by simp only[maxLen];omega);simp only[pR,hi',cond_true,bq hi,bZ hi,bind_some,ap,dG,aC];refine⟨?_,by simp;omega⟩;rw[ay (by omega)];rfl
theorem V4 {n:Nat} {ls:List (List aj)} (hv:∀ r∈ls.flatten,OkR r=true) (hl:ls.flatten.length < 10995116277) (hls:ls.length < 1099511627776) (hn:2*ls.flatten.length < n) (hn2:ls.length < n):Fw n ls=some (aJ ls.flatten):=by
 unfold Fw;rw[JE (by omega) hls hn2];generalize ls.flatten=l at*;have he:=y9 l;simp only[bind_some,length_nil,aC,cond_true,Lf (l:=l) (n:=n) (by omega) (by omega)];rw[lK (by rw[jd];omega) (by rw[jd];omega)];simp only[bind_some,bJ,aC,cond_true];rw[kS (by rw[bJ,jd];omega) (by rw[bJ,jd];omega)];simp only[bind_some];have hE:dP (iT ltI (l.flatMap fun r=>[r.x0,r.x1]))=aL l:=rfl;rw[hE];obtain⟨p1,p2⟩:=oC (fun a b=>(⟨a,b,bG l a⟩:aI)) (aL l);have key:iter (pU n l ((),aL l)) n ((1:Int),([]:List aI))=some (aJ l):=by
  have:=gP (step:=pU n l ((),aL l)) (fun i=>(((i+1:Nat):Int),(aJ l).take i)) (aJ l).length (aJ l) (fun i hi=>?_) ?_ n (by unfold aJ;omega)
  ·simpa using this
  ·have hi2:i+1 < (aL l).length:=(by unfold aJ at hi;omega);have d:decide (((i+1:Nat):Int) < (((aL l).length:Nat):Int))=true:=(by simp;omega);have wp:i64.wrap (((i+1:Nat):Int) - 1)=((i:Nat):Int):=(by rw[kI (by omega) (by omega)];rfl);have ap:bI ((aJ l).take i).length ((aJ l).take i).length (sub ([(aI.mk ((aL l)[i]'(by omega)) (aL l)[i+1] (bG l ((aL l)[i]'(by omega))))]:List aI) 0 1).length 1 40=true:=by
    refine bB (n:=1) ?_ ?_
    ·rw[length_take];unfold aJ;omega
    ·rw[length_take];unfold aJ;simp only[maxLen];omega
   have tk:(aJ l).take (i+1)=(aJ l).take i++[⟨(aL l)[i]'(by omega),(aL l)[i+1],bG l ((aL l)[i]'(by omega))⟩]:=by
    rw[take_succ_eq_append_getElem hi];congr 2;exact p2 i hi2 hi
   simp only[pU,d,cond_true,wp,bq (show i < (aL l).length by omega),bZ (show i < (aL l).length by omega),bind_some,bq hi2,bZ hi2,bE,aC,V3 (l:=l) (n:=n) hv (by omega) (by omega),ap,dG];rw[ay (by omega),tk];rfl
  ·have d:decide ((((aJ l).length+1:Nat):Int) < (((aL l).length:Nat):Int))=false:=(by unfold aJ;simp;omega);simp only[pU,d,cond_false,List.take_length,aC,cond_true]
 rw[key];simp only[bind_some,bE,aC,cond_true]
def ax (x0 x1:Int) (c:List aA):List aj:=c.map fun q=>⟨x0,q.from_,x1,q.to⟩
def xB (x0 x1:Int) (c:List aA):List aI->List aj
 |[]=>ax x0 x1 c
 |s::l=>if s.column=c then xB x0 s.x1 c l else ax x0 x1 c++xB s.x0 s.x1 s.column l
def aP:List aI->List aj
 |[]=>[]
 |s::l=>xB s.x0 s.x1 s.column l
theorem Ux (x0:Int) (c:List aA):∀ (l:List aI) (x1:Int) (k:Nat) (hk:k<=l.length),(∀ j (hj:j < k),(l[j]'(by omega)).column=c)->(∀ h:k < l.length,l[k].column≠c)->
 xB x0 x1 c l=ax x0 (if h:0 < k then (l[k - 1]'(by omega)).x1 else x1) c++aP (l.drop k)
 |l,x1,0,_,_,h2=>by
  cases l with
  |nil=>simp[xB,aP]
  |cons s l=>
   have:=h2 (by simp);simp only[List.getElem_cons_zero]at this;simp[xB,aP,this]
 |[],x1,k+1,hk,_,_=>by simp at hk
 |s::l,x1,k+1,hk,h1,h2=>by
  have e0:=h1 0 (by omega);simp only[List.getElem_cons_zero]at e0;simp only[xB,e0,if_true];rw[Ux x0 c l s.x1 k (by simpa using hk) (fun j hj=>by have:=h1 (j+1) (by omega);simpa using this) (fun h=>by have:=h2 (by simpa using h);simpa using this)];simp only[List.drop_succ_cons];congr 2;by_cases hk0:0 < k
  ·simp only[hk0,dite_true,Nat.zero_lt_succ,Nat.add_sub_cancel];obtain⟨m,rfl⟩:∃ m,k=m+1:=⟨k - 1,by omega⟩;simp
  ·have:k=0:=(by omega);subst this;simp
theorem Gl (l:List aI) (b:Nat) (h:∀ s∈l,s.column.length<=b):(aP l).length<=l.length*b:=by
 have go:∀ (l:List aI) (x0 x1:Int) (c:List aA),c.length<=b->(∀ s∈l,s.column.length<=b)->(xB x0 x1 c l).length<=(l.length+1)*b:=by
  intro l
  induction l with
  |nil=>intro x0 x1 c hc _;simp only[xB,ax,length_map,length_nil];omega
  |cons s l ih=>
   intro x0 x1 c hc hl;simp only[xB];split
   ·have:=ih x0 s.x1 c hc (fun t ht=>hl t (mem_cons_of_mem _ ht));simp only[length_cons,Nat.add_mul]at*;omega
   ·have:=ih s.x0 s.x1 s.column (hl s (by simp)) (fun t ht=>hl t (mem_cons_of_mem _ ht));simp only[length_append,ax,length_map,length_cons,Nat.add_mul]at*;omega
 cases l with
 |nil=>simp[aP]
 |cons s l=>
  simp only[aP];exact go l _ _ _ (h s (by simp)) (fun t ht=>h t (mem_cons_of_mem _ ht))
theorem NP {n:Nat} {l:List aI} {i k:Nat} (hi:i < l.length) (hk1:0 < k) (hk:k<=l.length) (hl:l.length < 10995116277) (x3:aI) (out:List aj) (ho:out.length < 1099511627776) (hc:x3.column.length < 1099511627776) (hn:x3.column.length < n):
 iter (sP l (i:Int) (k:Int) x3) n ((0:Int),out)=some (out++ax l[i].x0 (l[k - 1]'(by omega)).x1 x3.column):=by
 have:=bC (l:=x3.column) (step:=sP l (i:Int) (k:Int) x3) (fun j (s:List aj)=>((j:Int),s)) (fun q s=>s++[⟨l[i].x0,q.from_,(l[k - 1]'(by omega)).x1,q.to⟩]) (fun s=>s) (fun j s=>s.length<=out.length+j)
  (fun j hj s hs=>?_) (fun s hs=>by simp[sP]) n hn out (Nat.le_refl _)
 ·rw[show ((0:Nat):Int)=0 from rfl]at this;rw[this];have gen:∀ (ys:List aA) (s:List aj),ys.foldl (fun s q=>s++[⟨l[i].x0,q.from_,(l[k - 1]'(by omega)).x1,q.to⟩]) s=s++ax l[i].x0 (l[k - 1]'(by omega)).x1 ys:=by
   intro ys
   induction ys with
   |nil=>intro s;simp[ax]
   |cons y ys ih=>intro s;simp only[foldl_cons,ih];simp[ax]
  rw[gen]
 ·have hj':decide (((j:Nat):Int) < (x3.column.length:Int))=true:=by simpa using hj
  have wp:i64.wrap ((k:Int) - 1)=((k - 1:Nat):Int):=kI hk1 (by omega);have ap:bI s.length s.length (sub ([(aj.mk l[i].x0 (x3.column[j]).from_ (l[k - 1]'(by omega)).x1 (x3.column[j]).to)]:List aj) 0 1).length 1 32=true:=bB (n:=1) (by omega) (by simp only[maxLen];omega);simp only[sP,hj',cond_true,bn hj,bn hi,wp,bn (show k - 1 < l.length by omega),bind_some,ap,dG,aC];refine⟨?_,by simp;omega⟩;rw[ay (by omega)];rfl
theorem Yc {n:Nat} {l:List aI} {b:Nat} (hb:b<=100000) (hl:l.length<=100000) (hc:∀ s∈l,s.column.length<=b) (hn:b < n) (hn2:l.length < n):Jy n l=some (aP l):=by
 unfold Jy;simp only[length_nil,aC,cond_true];have main:∀ (m i:Nat) (out:List aj) (k:Nat),i+m=l.length->m < k->out.length<=i*b->iter (sQ n l) k ((i:Int),out)=some (out++aP (l.drop i)):=by
  intro m
  induction m using Nat.strongRecOn with
  |ind m ih=>
   intro i out k him hk ho;obtain⟨k,rfl⟩:∃ j,k=j+1:=⟨k - 1,by omega⟩;by_cases hm:m=0
   ·subst hm;have:i=l.length:=(by omega);subst this;refine aU ?_;simp[sQ,aP]
   ·have hi:i < l.length:=(by omega);have di:decide (((i:Nat):Int) < (l.length:Int))=true:=(by simpa using hi);obtain⟨q,hq1,hq2,hq3,hq4⟩:∃ q,i < q∧q<=l.length∧(∀ j,i < j->j < q->∀ h:j < l.length,l[j].column=l[i].column)∧(∀ h:q < l.length,l[q].column≠l[i].column):=by
     rcases yZ (fun j=>if h:j < l.length then decide (l[j].column≠l[i].column)else false) (i+1) l.length with ⟨q,h1,h2,h3,h4⟩ |h
     ·simp only[h2,dite_true,decide_eq_true_eq]at h3;refine⟨q,by omega,by omega,fun j hj1 hj2 hj=>?_,fun _=>h3⟩;have:=h4 j (by omega) hj2;simp only[hj,dite_true,decide_eq_false_iff_not,ne_eq,Decidable.not_not]at this;exact this
     ·refine⟨l.length,hi,Nat.le_refl _,fun j hj1 hj2 hj=>?_,fun h=>by omega⟩;have:=h j (by omega) hj;simp only[hj,dite_true,decide_eq_false_iff_not,ne_eq,Decidable.not_not]at this;exact this
    have cl:∀ j (hj:j < l.length),l[j].column.length<=b:=fun j hj=>hc _ (getElem_mem hj);have r2:iter (oU n l (i:Int)) n (i64.wrap ((i:Int)+1))=some (q:Int):=by
     rw[ay (by omega)];have:=gP (step:=oU n l (i:Int)) (fun j=>((i+1+j:Nat):Int)) (q - (i+1)) (q:Int) (fun j hj=>?_) ?_ n (by omega)
     ·simpa using this
     ·have hjl:i+1+j < l.length:=(by omega);have dj:decide (((i+1+j:Nat):Int) < (l.length:Int))=true:=(by simp;omega);have hcc:=cl (i+1+j) hjl;simp only[oU,dj,cond_true,bn hjl,bn hi,bind_some];rw[Aq (by omega) (by omega),hq3 (i+1+j) (by omega) (by omega) hjl];simp only[decide_true,bind_some,cond_true];rw[ay (by omega)];rfl
     ·rw[show i+1+(q - (i+1))=q by omega];by_cases hql:q < l.length
      ·have dj:decide (((q:Nat):Int) < (l.length:Int))=true:=(by simpa using hql);have hcc:=cl q hql;simp only[oU,dj,cond_true,bn hql,bn hi,bind_some];rw[Aq (by omega) (by omega)];simp[hq4 hql]
      ·have dj:decide (((q:Nat):Int) < (l.length:Int))=false:=(by simp;omega);simp only[oU,dj,cond_false,bind_some]
    have ob:i*b<=100000*100000:=Nat.mul_le_mul (by omega) hb;have hci:=cl i hi;have r3:=NP (n:=n) hi (show 0 < q by omega) hq2 (by omega) l[i] out (by omega) (by omega) (by omega);have step:sQ n l ((i:Int),out)=some (.inl ((q:Int),out++ax l[i].x0 (l[q - 1]'(by omega)).x1 l[i].column)):=(by simp only[sQ,di,cond_true,r2,bn hi,bind_some,aC,r3]);rw[bT step,ih (l.length - q) (by omega) q _ k (by omega) (by omega) (by
     rw[length_append,ax,length_map];have:(i+1)*b<=q*b:=Nat.mul_le_mul_right _ (by omega);rw[Nat.add_mul]at this;omega)]
    rw[append_assoc];congr 2
    conv=>rhs;rw[drop_eq_getElem_cons hi]
    simp only[aP];rw[Ux l[i].x0 l[i].column (l.drop (i+1)) l[i].x1 (q - (i+1)) (by rw[length_drop];omega) (fun j hj=>by
     rw[getElem_drop];exact hq3 _ (by omega) (by omega) (by omega)) (fun h=>by
     rw[length_drop]at h;rw[getElem_drop];have:=hq4 (by omega);have hqq:i+1+(q - (i+1))=q:=(by omega);simp only[hqq];exact this)]
    rw[List.drop_drop,show i+1+(q - (i+1))=q by omega];congr 2;by_cases h0:0 < q - (i+1)
    ·simp only[h0,dite_true,getElem_drop];congr 2;omega
    ·simp only[h0,dite_false];have:q - 1=i:=(by omega);congr 2
 have:=main l.length 0 [] n (by omega) (by omega) (by simp);simp only[Int.natCast_zero,nil_append,List.drop_zero]at this;rw[this];simp
def ofL (l:List aj):List aj×Int:=
 if l.all OkR then (if l.length>400 then ([],6)else if (aP (aJ l)).length>200 then ([],6)else (aP (aJ l),0))else ([],1)
def rightL (l:List aj):Bool:=decide ((ofL l).2=0)&&decide ((ofL l).1=l)
theorem Ng {l:List aj} {s:aI} (h:s∈aJ l):s.column.length<=l.length:=by
 obtain⟨i,hi,rfl⟩:=List.getElem_of_mem h;obtain⟨p1,p2⟩:=oC (fun a b=>(⟨a,b,bG l a⟩:aI)) (aL l);have:(aJ l)[i]=⟨(aL l)[i]'(by unfold aJ at hi;omega),(aL l)[i+1]'(by unfold aJ at hi;omega),bG l ((aL l)[i]'(by unfold aJ at hi;omega))⟩:=p2 i (by unfold aJ at hi;omega) hi;rw[this];exact Ei l _
theorem Q5 (l:List aj):(aJ l).length<=2*l.length:=by
 obtain⟨p1,_⟩:=oC (fun a b=>(⟨a,b,bG l a⟩:aI)) (aL l);have:=y9 l;unfold aJ;omega
theorem adE {n:Nat} {l:List aj} (hl:l.length < 1099511627776) (hl2:l.length < n) (hn:1000<=n):abd n l=some (ofL l):=by
 unfold abd;have h1:=qP (l:=l) (step:=Jz l) (fun i=>(i:Int)) (fun r=>!OkR r) () (fun _=>(([]:List aj),(1:Int))) (fun i hi=>?_) ?_ n (by omega)
 ·rw[show ((0:Nat):Int)=0 from rfl]at h1;rw[h1];have h2:=pI (fun r=>!OkR r) l;cases hf:oN (fun r=>!OkR r) l with
  |some i=>
   rw[hf]at h2;have:l.all OkR=false:=by
    rw[<- Bool.not_eq_true,all_eq_true];intro hall;have h3:=h2.symm;simp only[Option.isSome_some,any_eq_true]at h3;obtain⟨x,hx,hx2⟩:=h3;rw[hall x hx]at hx2;cases hx2
   simp[ofL,this]
  |none=>
   rw[hf]at h2;have:l.all OkR=true:=by
    rw[all_eq_true];intro x hx;cases h:OkR x with
    |true=>rfl
    |false=>
     have:l.any (fun r=>!OkR r)=true:=any_eq_true.2 ⟨x,hx,by rw[h];rfl⟩;rw[this]at h2;cases h2
   have hv:∀ r∈l,OkR r=true:=all_eq_true.1 this;by_cases h400:l.length>400
   ·have d4:decide ((l.length:Int)>400)=true:=(by simp;omega);simp only[gW,d4,cond_true,ofL,this,if_true,if_pos h400]
   have d4:decide ((l.length:Int)>400)=false:=(by simp;omega);have ls:=Q5 l;simp only[gW,d4,cond_false];have fl:[l].flatten=l:=(by simp);rw[show (sub ([l]:List (List aj)) 0 1)=[l]from rfl,V4 (ls:=[l]) (by rw[fl];exact hv) (by rw[fl];omega) (by simp) (by rw[fl];omega) (by simp;omega),fl];simp only[List.length_singleton,aC,cond_true,bind_some,bE];rw[Yc (b:=400) (by omega) (by omega) (fun s hs=>Nat.le_trans (Ng hs) (by omega)) (by omega) (by omega)];simp only[bind_some,bE,aC,cond_true,GY,ofL,this,if_true,if_neg h400];by_cases h200:(aP (aJ l)).length>200
   ·have:decide (((aP (aJ l)).length:Int)>200)=true:=(by simp;omega);simp only[this,cond_true,bind_some,h200,if_true]
   ·have:decide (((aP (aJ l)).length:Int)>200)=false:=(by simp;omega);simp only[this,cond_false,bind_some,h200,if_false]
 ·have hi':decide (((i:Nat):Int) < (l.length:Int))=true:=by simpa using hi
  simp only[Jz,hi',cond_true,bn hi,bind_some,oz];cases OkR l[i]with
  |false=>rfl
  |true=>simp only[Bool.not_true,cond_false];rw[ay (by omega)]
 ·simp[Jz]
theorem lN {n:Nat} {l:List aj} (hl:l.length < 1099511627776) (hl2:l.length < n) (hn:1000<=n):lG n l=some (rightL l):=by
 unfold lG rightL;rw[adE hl hl2 hn];simp only[bind_some];by_cases h:(ofL l).2=0
 ·have e:((ofL l).2==0)=true:=by simp[h]
  have lo:(ofL l).1.length<=200:=by
   unfold ofL;split
   ·split
    ·simp
    ·split
     ·simp
     ·simp;omega
   ·simp
  by_cases hlen:(ofL l).1.length < n
  ·simp only[e,cond_true,h,decide_true,Bool.true_and];rw[K9 (by omega) hlen];rfl
  ·have:(ofL l).1.length≠l.length:=(by omega);have hne:(ofL l).1≠l:=fun e=>this (by rw[e]);simp only[e,cond_true,h,decide_true,Bool.true_and];unfold kL;have hb:(((ofL l).1.length:Int) != (l.length:Int))=true:=(by simp;omega);rw[hb];simp[hne]
 ·have e:((ofL l).2==0)=false:=by simp[h]
  simp[e,h]
theorem kW {α:Type} (c:Bool) (a b:α):(bif c then some a else some b)=some (bif c then a else b):=by cases c<;>rfl
theorem Uy (i n:Nat):Int.tmod (i:Int) (n:Int)=((i%n:Nat):Int):=by rw[Int.tmod_eq_emod_of_nonneg (by omega)];omega
theorem bF {i n:Nat} (h:i < n):decide ((i:Int) < ((n:Nat):Int))=true:=by simpa using h
theorem nM (n:Nat):decide ((n:Int) < ((n:Nat):Int))=false:=by simp
theorem aeK {k b:Nat} (h:k*b<=140737488355328) (h2:k<=maxLen):NH (k:Int) b=true:=by
 have e:((k:Int)).toNat=k:=by omega
 simp only[NH,and_eq_true,decide_eq_true_eq,e];exact⟨⟨by omega,h⟩,h2⟩
def ptA (p:List bK) (i:Nat):bK:=p.getD i ⟨0,0⟩
def fM (p:List bK) (i:Nat):fQ:=⟨(ptA p i).x,(ptA p i).y,(ptA p ((i+1)%p.length)).x,(ptA p ((i+1)%p.length)).y⟩
def dN (p:List bK):List fQ:=(List.range p.length).map (fM p)
theorem OM {p:List bK} {i:Nat} (h:i < p.length):ptA p i=p[i]:=by simp[ptA,h]
theorem bS (p:List bK):(dN p).length=p.length:=by simp[dN]
theorem wT {p:List bK} {i:Nat} (h:i < (dN p).length):(dN p)[i]=fM p i:=by simp[dN]
theorem Q6 {α:Type} (A B:List α) (z x:α):(A++z::B).set A.length x=A++x::B:=by rw[List.set_append_right _ _ (Nat.le_refl _),Nat.sub_self];rfl
theorem yG {n:Nat} {p:List bK} (hl:p.length<=100000) (hn:p.length < n):lH n p=some (dN p):=by
 unfold lH;have mk:NH ((p.length:Nat):Int) 32=true:=aeK (by omega) (by show p.length<=2 ^ 63 - 1;omega);have main:=gP (step:=kP p) (fun i=>(((i:Nat):Int),(List.range i).map (fM p)++List.replicate (p.length - i) (fQ.mk 0 0 0 0))) p.length (dN p) (fun i hi=>?_) ?_ n hn
 ·have z:(((p.length:Nat):Int)).toNat=p.length:=by omega
  simp only[List.range_zero,List.map_nil,nil_append,Nat.sub_zero]at main;have d1:decide (((p.length:Nat):Int)<=((p.length:Nat):Int))=true:=by simp
  have d2:decide ((0:Int)<=((p.length:Nat):Int))=true:=by simp
  rw[mk,d1,d2,z];simp only[Bool.and_self,cond_true];rw[show ((0:Nat):Int)=0 from rfl]at main;rw[main];simp only[bind_some];have e:sub (dN p) 0 p.length=dN p:=by rw[<- bS p];exact bE _
  rw[e,bS];simp
 ·have nz:(((p.length:Nat):Int) != 0)=true:=by simp;intro h;rw[h]at hi;simp at hi
  have md:(i+1)%p.length < p.length:=Nat.mod_lt _ (by omega);have w:i64.wrap ((i:Int)+1)=((i+1:Nat):Int):=ay (by omega);have z:(((p.length:Nat):Int)).toNat=p.length:=by omega
  have rp:List.replicate (p.length - i) (fQ.mk 0 0 0 0)=fQ.mk 0 0 0 0::List.replicate (p.length - (i+1)) (fQ.mk 0 0 0 0):=by rw[show p.length - i=(p.length - (i+1))+1 by omega,List.replicate_succ]
  have la:((List.range i).map (fM p)).length=i:=by simp
  have g:at? ((List.range i).map (fM p)++List.replicate (p.length - i) (fQ.mk 0 0 0 0)) (((0:Nat):Int)+((i:Nat):Int))=some (fQ.mk 0 0 0 0):=by rw[rM,List.getElem?_append_right (by omega),la,rp,Nat.sub_self];rfl
  have z2:(((0:Nat):Int)+((i:Nat):Int)).toNat=i:=by omega
  have st:((List.range i).map (fM p)++List.replicate (p.length - i) (fQ.mk 0 0 0 0)).set i (fM p i)=(List.range (i+1)).map (fM p)++List.replicate (p.length - (i+1)) (fQ.mk 0 0 0 0):=by
   rw[rp];have:=Q6 ((List.range i).map (fM p)) (List.replicate (p.length - (i+1)) (fQ.mk 0 0 0 0)) (fQ.mk 0 0 0 0) (fM p i);rw[la]at this;rw[this,List.range_succ,List.map_append,append_assoc];rfl
  simp only[kP,bF hi,cond_true,bn hi,bind_some,nz,w,Uy,bn md,z,bq hi,g,z2];rw[<- OM hi,<- OM md];rw[show fQ.mk (ptA p i).x (ptA p i).y (ptA p ((i+1)%p.length)).x (ptA p ((i+1)%p.length)).y=fM p i from rfl,st]
 ·simp only[kP,nM,cond_false,Nat.sub_self,List.replicate_zero,append_nil];rfl
def OO (a:bK):Bool:=decide (0<=a.x)&&(decide (a.x<=1048576)&&(decide (0<=a.y)&&decide (a.y<=1048576)))
def upP (s:fQ):Bool:=s.a_x==s.b_x
def V5 (s t:fQ):Bool:=decide (max (min s.a_x s.b_x) (min t.a_x t.b_x)<=min (max s.a_x s.b_x) (max t.a_x t.b_x))&&decide (max (min s.a_y s.b_y) (min t.a_y t.b_y)<=min (max s.a_y s.b_y) (max t.a_y t.b_y))
def OQ (a b:bK):Bool:=decide (a.x < b.x) || (a.x==b.x&&decide (a.y < b.y))
theorem JG (a:bK):pV a=some (OO a):=by simp only[pV,Lc,OO]
theorem Ar (s t:fQ):iW s t=some (V5 s t):=by simp only[iW,Lc,V5]
theorem jP (s:fQ):dX s=some (upP s):=rfl
theorem Q7 {n:Nat} (a b:Int) (hn:3<=n):oq n [a,b]=some (if a=0 then b else a):=by
 obtain⟨m,rfl⟩:∃ m,n=m+3:=⟨n - 3,by omega⟩;have w1:i64.wrap ((0:Int)+1)=1:=by decide
 have w2:i64.wrap ((1:Int)+1)=2:=by decide
 by_cases ha:a=0
 ·by_cases hb:b=0
  ·subst ha;subst hb;simp only[oq,Af,rQ,w1,w2];rfl
  ·have hb':(b != 0)=true:=(by simpa using hb);subst ha;simp only[oq,Af,rQ,w1];simp[at?,hb',dV]
 ·have ha':(a != 0)=true:=by simpa using ha
  simp only[oq,Af,rQ];simp[at?,ha',dV,ha]
theorem Hf {n:Nat} (a b:bK) (hn:3<=n):∃ r,nR n a b=some r∧decide (r>=0)=!OQ a b:=by
 unfold nR;rw[iC,iC];simp only[bind_some];rw[show ∀ u v:Int,sub [u,v] 0 2=[u,v]from fun _ _=>rfl,Q7 _ _ hn];refine⟨_,rfl,?_⟩;unfold OQ;by_cases h1:a.x < b.x
 ·simp[h1]
 ·by_cases h2:b.x < a.x
  ·have h3:¬ a.x=b.x:=(by omega);simp[h1,h2,h3]
  ·have h3:a.x=b.x:=(by omega);by_cases h4:a.y < b.y
   ·simp[h3,h4]
   ·by_cases h5:b.y < a.y<;>simp[h3,h4,h5]
def adF (p:List bK) (i:Nat):Bool:=
 (!OO (ptA p i) || ((((fM p i).a_x==(fM p i).b_x)==((fM p i).a_y==(fM p i).b_y)) || (upP (fM p i)==upP (fM p ((i+1)%p.length))))) || (decide (0 < i)&&!OQ (ptA p 0) (ptA p i))
def NQ (p:List bK) (i k:Nat):Bool:=decide (i+p.length - k>1)&&V5 (fM p i) (fM p k)
def Lg (p:List bK):Bool:=
 decide (4<=p.length)&&(decide (p.length<=60)&&(!((List.range p.length).any (adF p))&&(!((List.range p.length).any fun i=>(List.range p.length).any fun k=>decide (i+2<=k)&&NQ p i k)&&!upP (fM p 0))))
def aV (l:List aj) (x y:Int):Bool:=l.any fun r=>(decide (r.x0<=x)&&decide (x < r.x1))&&(decide (r.y0<=y)&&decide (y < r.y1))
theorem Ej (l:List aj) (x y:Int):inS (bH l x) y=aV l x y:=by
 induction l with
 |nil=>rfl
 |cons r l ih=>
  unfold bH aV at*;rw[List.filter_cons,List.any_cons,<- ih];cases h:(decide (r.x0<=x)&&decide (x < r.x1))with
  |true=>simp only[if_true,map_cons,Bool.true_and];rw[jO]
  |false=>simp
theorem je {l:List aj} (h:∀ r∈l,OkR r=true) (x:Int):Can (bG l x)∧∀ y,inS (bG l x) y=aV l x y:=by
 obtain⟨h1,h2⟩:=Lb (He h x);exact⟨h1,fun y=>by rw[bG,h2,Ej]⟩
def oD:List aI->Prop
 |[]=>True
 |[s]=>s.x0 < s.x1
 |s::t::l=>s.x0 < s.x1∧s.x1=t.x0∧oD (t::l)
def d9:List aI->Int->List aA
 |[],_=>[]
 |s::l,x=>bif decide (s.x0<=x)&&decide (x < s.x1)then s.column else d9 l x
theorem iD (s:aI) (l:List aI) (x:Int):d9 (s::l) x=bif decide (s.x0<=x)&&decide (x < s.x1)then s.column else d9 l x:=rfl
def Runs:List aI->Prop
 |[]=>True
 |[s]=>s.x0 < s.x1∧s.column≠[]
 |s::t::l=>(s.x0 < s.x1∧s.column≠[])∧s.x1<=t.x0∧(s.x1=t.x0->s.column≠t.column)∧Runs (t::l)
theorem eO {s:aI} {l:List aI} (h:Runs (s::l)):Runs l:=by
 cases l with
 |nil=>trivial
 |cons t l=>exact h.2.2.2
theorem fZ {s:aI} {l:List aI} (h:Runs (s::l)):s.x0 < s.x1∧s.column≠[]:=by
 cases l with
 |nil=>exact h
 |cons t l=>exact h.1
theorem jf:∀ {l:List aI} {b x:Int},Runs l->(∀ s∈l.head?,b<=s.x0)->x < b->d9 l x=[]
 |[],_,_,_,_,_=>rfl
 |s::l,b,x,h,hb,hx=>by
  have h0:=hb s rfl;have hs:=fZ h;have c:(decide (s.x0<=x)&&decide (x < s.x1))=false:=by rw[Bool.and_eq_false_iff,decide_eq_false_iff_not];left;omega
  rw[iD,c,cond_false];refine jf (eO h) (b:=s.x1) (fun t ht=>?_) (by omega);cases l with
  |nil=>cases ht
  |cons u l=>
   have:t=u:=(by simpa using ht.symm);subst this;exact h.2.1
theorem rX {s:aI} {l:List aI} {x:Int} (h1:s.x0<=x) (h2:x < s.x1):d9 (s::l) x=s.column:=by rw[iD,show (decide (s.x0<=x)&&decide (x < s.x1))=true by simp[h1,h2]];rfl
theorem sZ {s:aI} {l:List aI} {x:Int} (h:s.x1<=x):d9 (s::l) x=d9 l x:=by rw[iD,show (decide (s.x0<=x)&&decide (x < s.x1))=false by rw[Bool.and_eq_false_iff,decide_eq_false_iff_not,decide_eq_false_iff_not];right;omega];rfl
theorem Yd {s:aI} {l:List aI} (h:Runs (s::l)):d9 l s.x1≠s.column:=by
 have hs:=fZ h;cases l with
 |nil=>exact fun e=>hs.2 e.symm
 |cons t l=>
  obtain⟨_,h2,h3,h4⟩:=h;have ht:=fZ h4;by_cases e:s.x1=t.x0
  ·rw[rX (by omega) (by omega)];exact fun e'=>h3 e e'.symm
  ·rw[jf h4 (b:=t.x0) (fun u hu=>by have:u=t:=by simpa using hu.symm
                                    subst this;exact Int.le_refl _) (by omega)]
   exact fun e'=>hs.2 e'.symm
theorem Nh:∀ {l m:List aI},Runs l->Runs m->(∀ x,d9 l x=d9 m x)->l=m
 |[],[],_,_,_=>rfl
 |[],b::m,_,hm,h=>by
  have hb:=fZ hm;have:=h b.x0;rw[rX (Int.le_refl _) hb.1]at this;exact absurd this.symm hb.2
 |a::l,[],hl,_,h=>by
  have ha:=fZ hl;have:=h a.x0;rw[rX (Int.le_refl _) ha.1]at this;exact absurd this ha.2
 |a::l,b::m,hl,hm,h=>by
  have ha:=fZ hl;have hb:=fZ hm;have e0:a.x0=b.x0:=by
   rcases Int.lt_trichotomy a.x0 b.x0 with hlt |he |hlt
   ·have:=h a.x0
    rw[rX (Int.le_refl _) ha.1,jf hm (b:=b.x0) (fun u hu=>by have:u=b:=by simpa using hu.symm
                                                             subst this;exact Int.le_refl _) hlt]at this
    exact absurd this ha.2
   ·exact he
   ·have:=h b.x0
    rw[rX (Int.le_refl _) hb.1,jf hl (b:=a.x0) (fun u hu=>by have:u=a:=by simpa using hu.symm
                                                             subst this;exact Int.le_refl _) hlt]at this
    exact absurd this.symm hb.2
  have ec:a.column=b.column:=by
   have:=h a.x0
   rwa [rX (Int.le_refl _) ha.1,rX (by omega) (by omega)]at this
  have e1:a.x1=b.x1:=by
   rcases Int.lt_trichotomy a.x1 b.x1 with hlt |he |hlt
   ·have:=h a.x1;rw[sZ (Int.le_refl _),rX (by omega) hlt]at this;exact absurd (this.trans ec.symm) (Yd hl)
   ·exact he
   ·have:=h b.x1;rw[sZ (s:=b) (Int.le_refl _),rX (by omega) hlt]at this;exact absurd (this.symm.trans ec) (Yd hm)
  have e:a=b:=by cases a;cases b;simp only at e0 e1 ec;rw[e0,e1,ec]
  subst e;rw[Nh (eO hl) (eO hm) fun x=>?_];by_cases hx:x < a.x1
  ·have bl:=jf (eO hl) (b:=a.x1) (x:=x) (fun t ht=>by
    cases l with
    |nil=>cases ht
    |cons u l=>
     have:t=u:=(by simpa using ht.symm);subst this;exact hl.2.1) hx
   have bm:=jf (eO hm) (b:=a.x1) (x:=x) (fun t ht=>by
    cases m with
    |nil=>cases ht
    |cons u m=>
     have:t=u:=(by simpa using ht.symm);subst this;exact hm.2.1) hx
   rw[bl,bm]
  ·have:=h x
   rwa [sZ (by omega),sZ (by omega)]at this
def El (x0 x1:Int) (c:List aA):List aI:=if c=[]then []else [⟨x0,x1,c⟩]
def CK (x0 x1:Int) (c:List aA):List aI->List aI
 |[]=>El x0 x1 c
 |s::l=>if s.column=c then CK x0 s.x1 c l else El x0 x1 c++CK s.x0 s.x1 s.column l
def Au:List aI->List aI
 |[]=>[]
 |s::l=>CK s.x0 s.x1 s.column l
def fG (l:List aI):List aj:=l.flatMap fun s=>ax s.x0 s.x1 s.column
theorem Ni (x0 x1:Int) (c:List aA):fG (El x0 x1 c)=ax x0 x1 c:=by
 unfold El;split
 ·rename_i h;subst h;rfl
 ·simp[fG]
theorem Lh:∀ (l:List aI) (x0 x1:Int) (c:List aA),xB x0 x1 c l=fG (CK x0 x1 c l)
 |[],x0,x1,c=>(Ni x0 x1 c).symm
 |s::l,x0,x1,c=>by
  simp only[xB,CK];split
  ·exact Lh l _ _ _
  ·rw[Lh l];unfold fG;rw[List.flatMap_append];congr 1;exact (Ni x0 x1 c).symm
theorem tq (l:List aI):aP l=fG (Au l):=by
 cases l with
 |nil=>rfl
 |cons s l=>exact Lh l _ _ _
theorem Hg (x0:Int):∀ (l:List aI) (x1:Int) (c:List aA),x0 < x1->(∀ s∈l.head?,x1=s.x0)->oD l->∀ t∈(CK x0 x1 c l).head?,x0<=t.x0∧(t.x0=x0->t.column=c)
 |[],x1,c,_,_,_,t,ht=>by
  simp only[CK,El]at ht;split at ht
  ·cases ht
  ·have:t=⟨x0,x1,c⟩:=(by simpa using ht.symm);subst this;exact⟨Int.le_refl _,fun _=>rfl⟩
 |s::l,x1,c,hx,hc,hS,t,ht=>by
  have e:=hc s rfl;have hs:s.x0 < s.x1∧(∀ u∈l.head?,s.x1=u.x0)∧oD l:=by
   cases l with
   |nil=>exact⟨hS,fun u hu=>(by cases hu),trivial⟩
   |cons v l=>exact⟨hS.1,fun u hu=>by have:u=v:=by simpa using hu.symm
                                      subst this;exact hS.2.1,hS.2.2⟩
  simp only[CK]at ht;split at ht
  ·exact Hg x0 l s.x1 c (by omega) hs.2.1 hs.2.2 t ht
  ·unfold El at ht;split at ht
   ·rw[nil_append]at ht;have:=Hg s.x0 l s.x1 s.column hs.1 hs.2.1 hs.2.2 t ht;exact⟨by omega,fun h=>by omega⟩
   ·have:t=⟨x0,x1,c⟩:=(by simpa using ht.symm);subst this;exact⟨Int.le_refl _,fun _=>rfl⟩
theorem ab7 {s:aI} {l:List aI} (h1:s.x0 < s.x1) (h2:s.column≠[]) (h3:∀ t∈l.head?,s.x1<=t.x0∧(s.x1=t.x0->s.column≠t.column)) (h4:Runs l):Runs (s::l):=by
 cases l with
 |nil=>exact⟨h1,h2⟩
 |cons t l=>
  have:=h3 t rfl;exact⟨⟨h1,h2⟩,this.1,this.2,h4⟩
theorem Hl:∀ (l:List aI) (x0 x1:Int) (c:List aA),x0 < x1->(∀ s∈l.head?,x1=s.x0)->oD l->
 Runs (CK x0 x1 c l)∧∀ x,d9 (CK x0 x1 c l) x=bif decide (x0<=x)&&decide (x < x1)then c else d9 l x
 |[],x0,x1,c,hx,_,_=>by
  simp only[CK,El];split
  ·rename_i h;subst h;exact⟨trivial,fun x=>by simp[d9]⟩
  ·rename_i h;exact⟨⟨hx,h⟩,fun x=>rfl⟩
 |s::l,x0,x1,c,hx,hc,hS=>by
  have e:=hc s rfl;have hs:s.x0 < s.x1∧(∀ u∈l.head?,s.x1=u.x0)∧oD l:=by
   cases l with
   |nil=>exact⟨hS,fun u hu=>(by cases hu),trivial⟩
   |cons v l=>exact⟨hS.1,fun u hu=>by have:u=v:=by simpa using hu.symm
                                      subst this;exact hS.2.1,hS.2.2⟩
  simp only[CK];split
  ·rename_i hcol;obtain⟨r1,r2⟩:=Hl l x0 s.x1 c (by omega) hs.2.1 hs.2.2;refine⟨r1,fun x=>?_⟩;rw[r2,iD,hcol];by_cases h1:x0<=x<;>by_cases h2:x < x1<;>by_cases h3:s.x0<=x<;>by_cases h4:x < s.x1<;>simp[h1,h2,h3,h4]<;>omega
  ·rename_i hcol;obtain⟨r1,r2⟩:=Hl l s.x0 s.x1 s.column hs.1 hs.2.1 hs.2.2;have hd:=Hg s.x0 l s.x1 s.column hs.1 hs.2.1 hs.2.2;unfold El;split
   ·rename_i hn;subst hn;rw[nil_append];refine⟨r1,fun x=>?_⟩;rw[r2,iD];by_cases h1:x0<=x<;>by_cases h2:x < x1
    ·have h3:¬ s.x0<=x:=(by omega);simp only[h1,h2,h3,decide_true,decide_false,Bool.and_self,Bool.false_and,cond_true,cond_false];have:=jf r1 (b:=s.x0) (x:=x) (fun t ht=>(hd t ht).1) (by omega);rw[r2]at this;simpa[h3]using this
    all_goals simp[h1,h2]
   ·rename_i hn;rw[List.singleton_append];refine⟨ab7 hx hn (fun t ht=>?_) r1,fun x=>?_⟩
    ·obtain⟨d1,d2⟩:=hd t ht;refine⟨by show x1<=t.x0;omega,fun ht2 hcc=>?_⟩;have ht2:x1=t.x0:=ht2;rw[d2 (by omega)]at hcc;exact hcol hcc.symm
    ·rw[iD,r2,iD]
theorem wU {l:List aI} (h:oD l):Runs (Au l)∧∀ x,d9 (Au l) x=d9 l x:=by
 cases l with
 |nil=>exact⟨trivial,fun _=>rfl⟩
 |cons s l=>
  have hs:s.x0 < s.x1∧(∀ u∈l.head?,s.x1=u.x0)∧oD l:=by
   cases l with
   |nil=>exact⟨h,fun u hu=>(by cases hu),trivial⟩
   |cons v l=>exact⟨h.1,fun u hu=>by have:u=v:=by simpa using hu.symm
                                     subst this;exact h.2.1,h.2.2⟩
  obtain⟨r1,r2⟩:=Hl l s.x0 s.x1 s.column hs.1 hs.2.1 hs.2.2;exact⟨r1,fun x=>by rw[iD];exact r2 x⟩
theorem SC {l m:List aI} (hl:oD l) (hm:oD m) (h:∀ x,d9 l x=d9 m x):aP l=aP m:=by
 obtain⟨l1,l2⟩:=wU hl;obtain⟨m1,m2⟩:=wU hm;rw[tq,tq,Nh l1 m1 fun x=>by rw[l2,m2,h]]
theorem Q8 (l m:List aj) (x:Int):bH (l++m) x=bH l x++bH m x:=by simp[bH]
theorem SF (x0 x1:Int) (c:List aA) (x:Int):bH (ax x0 x1 c) x=bif decide (x0<=x)&&decide (x < x1)then c else []:=by
 unfold bH ax
 induction c with
 |nil=>simp
 |cons s c ih=>
  rw[map_cons,List.filter_cons];cases h:(decide (x0<=x)&&decide (x < x1))with
  |true=>rw[h]at ih;simp only[if_true,map_cons,ih,cond_true]
  |false=>rw[h]at ih;simpa using ih
theorem JH:∀ {l:List aI},Runs l->∀ x,bH (fG l) x=d9 l x
 |[],_,x=>rfl
 |s::l,h,x=>by
  have ih:=JH (eO h) x;have hs:=fZ h;show bH (ax s.x0 s.x1 s.column++fG l) x=_;rw[Q8,SF,ih,iD];cases hc:(decide (s.x0<=x)&&decide (x < s.x1))with
  |false=>rfl
  |true=>
   rw[and_eq_true,decide_eq_true_eq,decide_eq_true_eq]at hc;have:=jf (eO h) (b:=s.x1) (x:=x) (fun t ht=>by
    cases l with
    |nil=>cases ht
    |cons u l=>
     have:t=u:=(by simpa using ht.symm);subst this;exact h.2.1) hc.2
   rw[this];simp
theorem Em {l:List aI} (h:oD l) (x:Int):bH (aP l) x=d9 l x:=by
 obtain⟨h1,h2⟩:=wU h;rw[tq,JH h1,h2]
theorem JI {l:List aI} (h:oD l) (x y:Int):aV (aP l) x y=inS (d9 l x) y:=by rw[<- Ej,Em h]
theorem JJ {α:Type} (f:Int->Int->α) (a b:Int) (l:List Int):mY f (a::b::l)=f a b::mY f (b::l):=rfl
theorem BX (g:Int->List aA):∀ (es:List Int),es.Pairwise (· < ·)->oD (mY (fun a b=>(⟨a,b,g a⟩:aI)) es)
 |[],_=>trivial
 |[_],_=>trivial
 |[a,b],h=>by
  have h1:=(pairwise_cons.1 h).1 b (by simp);exact h1
 |a::b::c::l,h=>by
  have h1:=(pairwise_cons.1 h).1 b (by simp);exact⟨h1,rfl,BX g (b::c::l) (pairwise_cons.1 h).2⟩
theorem En (g:Int->List aA) (x:Int):∀ (es:List Int),(∀ e∈es,x < e)->d9 (mY (fun a b=>(⟨a,b,g a⟩:aI)) es) x=[]
 |[],_=>rfl
 |[_],_=>rfl
 |a::b::l,h=>by
  have ha:=h a (by simp);rw[JJ,iD,show (decide (a<=x)&&decide (x < b))=false by rw[Bool.and_eq_false_iff,decide_eq_false_iff_not];left;omega,cond_false];exact En g x (b::l) fun e he=>h e (mem_cons_of_mem _ he)
theorem Eo (g:Int->List aA) (x:Int):∀ (l:List Int) (a:Int),(a::l).Pairwise (· < ·)->a<=x->
 (∀ e∈a::l,e<=x->(∀ e'∈a::l,e'<=e∨x < e')->g e=g x)->((∀ e∈a::l,e<=x)->g x=[])->d9 (mY (fun a b=>(⟨a,b,g a⟩:aI)) (a::l)) x=g x
 |[],a,_,hx,_,h2=>(h2 (fun e he=>by have:e=a:=by simpa using he
                                    subst this;exact hx)).symm
 |b::l,a,hp,hx,h1,h2=>by
  have hab:=(pairwise_cons.1 hp).1 b (by simp);rw[JJ,iD];by_cases hb:x < b
  ·rw[show (decide (a<=x)&&decide (x < b))=true by simp[hx,hb],cond_true];refine h1 a (by simp) hx fun e he=>?_;rcases mem_cons.1 he with rfl |he
   ·exact .inl (Int.le_refl _)
   ·right;rcases mem_cons.1 he with rfl |he
    ·exact hb
    ·have:=(pairwise_cons.1 (pairwise_cons.1 hp).2).1 e he;omega
  ·rw[show (decide (a<=x)&&decide (x < b))=false by simp[hb],cond_false];refine Eo g x l b (pairwise_cons.1 hp).2 (by omega) (fun e he hex hc=>h1 e (mem_cons_of_mem _ he) hex fun e' he'=>?_) fun hall=>h2 fun e he=>?_
   ·rcases mem_cons.1 he' with rfl |he'
    ·left;have:=(pairwise_cons.1 hp).1 e he;omega
    ·exact hc e' he'
   ·rcases mem_cons.1 he with rfl |he
    ·exact hx
    ·exact hall e he
theorem Nj (g:Int->List aA) (es:List Int) (hp:es.Pairwise (· < ·)) (x:Int)
 (h1:∀ e∈es,e<=x->(∀ e'∈es,e'<=e∨x < e')->g e=g x) (h2:(∀ e∈es,e<=x)->g x=[]) (h3:(∀ e∈es,x < e)->g x=[]):d9 (mY (fun a b=>(⟨a,b,g a⟩:aI)) es) x=g x:=by
 cases es with
 |nil=>exact (h3 (by simp)).symm
 |cons a l=>
  by_cases hx:a<=x
  ·exact Eo g x l a hp hx h1 h2
  ·have hall:∀ e∈a::l,x < e:=by
    intro e he;rcases mem_cons.1 he with rfl |he
    ·omega
    ·have:=(pairwise_cons.1 hp).1 e he;omega
   rw[En g x _ hall,h3 hall]
theorem Ho {l:List aj} {z:Int}:z∈aL l↔∃ r∈l,z=r.x0∨z=r.x1:=by
 rw[aL,XZ,mem_flatMap];simp
theorem za (l:List aj):(aL l).Pairwise (· < ·):=Na _
theorem SG {l:List aj} {es:List Int} (hes:∀ r∈l,r.x0∈es∧r.x1∈es) {e x:Int} (hex:e<=x) (hc:∀ e'∈es,e'<=e∨x < e'):bH l e=bH l x:=by
 unfold bH;congr 1;refine List.filter_congr fun r hr=>?_;obtain⟨h0,h1⟩:=hes r hr;have:=hc _ h0;have:=hc _ h1;rw[Bool.eq_iff_iff,and_eq_true,and_eq_true,decide_eq_true_eq,decide_eq_true_eq,decide_eq_true_eq,decide_eq_true_eq];omega
theorem JK {l:List aj} {x:Int} (h:∀ r∈l,x < r.x0∨r.x1<=x):bH l x=[]:=by
 unfold bH;rw[List.map_eq_nil_iff,List.filter_eq_nil_iff];intro r hr;have:=h r hr;rw[and_eq_true,decide_eq_true_eq,decide_eq_true_eq];omega
theorem qf (l:List aj):oD (aJ l):=BX _ _ (za l)
theorem zb (l:List aj) (x:Int):d9 (aJ l) x=bG l x:=by
 have hes:∀ r∈l,r.x0∈aL l∧r.x1∈aL l:=fun r hr=>⟨Ho.2 ⟨r,hr,.inl rfl⟩,Ho.2 ⟨r,hr,.inr rfl⟩⟩;refine Nj (bG l) (aL l) (za l) x (fun e _ hex hc=>?_) (fun hall=>?_) (fun hall=>?_)
 ·unfold bG;rw[SG hes hex hc]
 ·unfold bG;rw[JK fun r hr=> .inr (hall _ (hes r hr).2)];rfl
 ·unfold bG;rw[JK fun r hr=> .inl (hall _ (hes r hr).1)];rfl
theorem adG {c:List aA} (h:Can c):Ya c=c:=by
 obtain⟨h1,h2⟩:=Lb h.2;exact ow h1 h h2
theorem Nk {l:List aI} {r:aj}:r∈fG l↔∃ s∈l,∃ q∈s.column,r=⟨s.x0,q.from_,s.x1,q.to⟩:=by
 simp only[fG,ax,mem_flatMap,mem_map];constructor
 ·rintro⟨s,hs,q,hq,rfl⟩;exact⟨s,hs,q,hq,rfl⟩
 ·rintro⟨s,hs,q,hq,rfl⟩;exact⟨s,hs,q,hq,rfl⟩
theorem tu:∀ {l:List aI},Runs l->∀ s∈l,s.x0 < s.x1∧∀ x,s.x0<=x->x < s.x1->d9 l x=s.column
 |[],_,s,hs=>by simp at hs
 |t::l,h,s,hs=>by
  rcases mem_cons.1 hs with rfl |hs
  ·exact⟨(fZ h).1,fun x h1 h2=>rX h1 h2⟩
  ·obtain⟨g1,g2⟩:=tu (eO h) s hs;refine⟨g1,fun x h1 h2=>?_⟩;have:t.x1<=x:=by
    by_cases hlt:x < t.x1
    ·have hb:=jf (eO h) (b:=t.x1) (x:=x) (fun u hu=>by
      cases l with
      |nil=>cases hu
      |cons v l=>
       have:u=v:=(by simpa using hu.symm);subst this;exact h.2.1) hlt
     rw[g2 x h1 h2]at hb;have hne:s.column≠[]:=by
      have:∀ {l:List aI},Runs l->∀ s∈l,s.column≠[]:=by
       intro l
       induction l with
       |nil=>intro _ s hs;simp at hs
       |cons a l ih=>
        intro h s hs;rcases mem_cons.1 hs with rfl |hs
        ·exact (fZ h).2
        ·exact ih (eO h) s hs
      exact this (eO h) s hs
     exact absurd hb hne
    ·omega
   rw[sZ this,g2 x h1 h2]
theorem JL {S:List aI} (hS:oD S) (hc:∀ x,Can (d9 S x)) (hb:∀ x y,inS (d9 S x) y=true->(0<=x∧x < 1048576)∧(0<=y∧y < 1048576)) (hl:(aP S).length<=200):rightL (aP S)=true:=by
 have hok:∀ r∈aP S,OkR r=true:=by
  intro r hr;obtain⟨r1,r2⟩:=wU hS;rw[tq,Nk]at hr;obtain⟨s,hs,q,hq,rfl⟩:=hr;obtain⟨g1,g2⟩:=tu r1 s hs;have c0:=g2 s.x0 (Int.le_refl _) g1;have c1:=g2 (s.x1 - 1) (by omega) (by omega);rw[r2]at c0 c1;have hcan:=hc s.x0;rw[c0]at hcan;have hq1:q.from_ < q.to:=hcan.2 q hq;have b0:=hb s.x0 q.from_ (by rw[c0,rW];exact⟨q,hq,Int.le_refl _,hq1⟩);have b1:=hb (s.x1 - 1) (q.to - 1) (by rw[c1,rW];exact⟨q,hq,by omega,by omega⟩);simp only[OkR,and_eq_true,decide_eq_true_eq];omega
 have he:aP (aJ (aP S))=aP S:=by
  refine SC (qf _) hS fun x=>?_;rw[zb,bG,Em hS,adG (hc x)]
 unfold rightL ofL;rw[if_pos (all_eq_true.2 hok),if_neg (by omega),he,if_neg (by omega)];simp
theorem ab8 {a:List aj} (h:rightL a=true):ofL a=(a,0):=by
 unfold rightL at h;rw[and_eq_true,decide_eq_true_eq,decide_eq_true_eq]at h;obtain⟨h1,h2⟩:=h;exact Prod.ext h2 h1
theorem dU {a:List aj} (h:rightL a=true):(∀ r∈a,OkR r=true)∧a.length<=200∧aP (aJ a)=a:=by
 have h:=ab8 h;unfold ofL at h;split at h
 ·rename_i hall;split at h
  ·simp at h
  ·split at h
   ·simp at h
   ·rename_i h200;injection h with h _;refine⟨all_eq_true.1 hall,?_,h⟩;rw[<- h];omega
 ·simp at h
theorem vE {a:List aj} (h:∀ r∈a,OkR r=true) {x y:Int} (hc:aV a x y=true):(0<=x∧x < 1048576)∧(0<=y∧y < 1048576):=by
 simp only[aV,any_eq_true,and_eq_true,decide_eq_true_eq]at hc;obtain⟨q,hq,h1,h2⟩:=hc;have:=h q hq;simp only[OkR,and_eq_true,decide_eq_true_eq]at this;omega
def ext (out:List aA) (p:aA):List aA:=
 match out.getLast? with
 |some q=>bif q.to==p.from_ then out.dropLast++[⟨q.from_,p.to⟩]else out++[p]
 |none=>[p]
theorem Q9 (o:List aA) (q p:aA):ext (o++[q]) p=bif q.to==p.from_ then o++[⟨q.from_,p.to⟩]else o++[q]++[p]:=by simp[ext]
theorem adH {out:List aA} {p:aA} (hc:Can out) (hp:OkS p) (hb:∀ o∈out,o.to<=p.from_):
 Can (ext out p)∧(∀ o∈ext out p,o.to<=p.to)∧∀ y,inS (ext out p) y=(inS out y || inS [p] y):=by
 have hp':p.from_ < p.to:=hp;rcases List.eq_nil_or_concat out with rfl |⟨o,q,rfl⟩
 ·refine⟨⟨by simp[ext],by simp[ext];exact hp⟩,by simp[ext],fun y=>by simp[ext,inS]⟩
 ·rw[List.concat_eq_append]at*;obtain⟨h1,h2⟩:=hc;rw[pairwise_append]at h1;obtain⟨p1,_,p3⟩:=h1;have hq:q.from_ < q.to:=h2 q (by simp);have hqp:q.to<=p.from_:=hb q (by simp);rw[Q9];cases hj:q.to==p.from_ with
  |true=>
   have hj:=eq_of_beq hj;simp only[cond_true];refine⟨⟨?_,?_⟩,?_,?_⟩
   ·rw[pairwise_append];refine⟨p1,by simp,fun a ha b hb'=>?_⟩;rw[mem_singleton]at hb';subst hb';exact p3 a ha q (by simp)
   ·intro a ha;rcases mem_append.1 ha with ha |ha
    ·exact h2 a (by simp[ha])
    ·rw[mem_singleton]at ha;subst ha;show q.from_ < p.to;omega
   ·intro a ha;rcases mem_append.1 ha with ha |ha
    ·have:=hb a (by simp[ha]);omega
    ·rw[mem_singleton]at ha;subst ha;exact Int.le_refl _
   ·intro y;rw[lM,lM,Bool.or_assoc];congr 1;simp only[jO,vD,Bool.or_false];rw[Bool.eq_iff_iff];simp only[and_eq_true,Bool.or_eq_true,decide_eq_true_eq];omega
  |false=>
   rw[beq_eq_false_iff_ne]at hj;simp only[cond_false];refine⟨⟨?_,?_⟩,?_,?_⟩
   ·rw[pairwise_append];refine⟨?_,by simp,fun a ha b hb'=>?_⟩
    ·rw[pairwise_append];exact⟨p1,by simp,p3⟩
    ·rw[mem_singleton]at hb';subst hb';rcases mem_append.1 ha with ha |ha
     ·have:=p3 a ha q (by simp);omega
     ·rw[mem_singleton]at ha;subst ha;omega
   ·intro a ha;rcases mem_append.1 ha with ha |ha
    ·exact h2 a ha
    ·rw[mem_singleton]at ha;subst ha;exact hp
   ·intro a ha;rcases mem_append.1 ha with ha |ha
    ·have:=hb a ha;omega
    ·rw[mem_singleton]at ha;subst ha;exact Int.le_refl _
   ·intro y;rw[lM]
theorem Uz:∀ (l out:List aA),Can out->(∀ s∈l,OkS s)->l.Pairwise (fun x y=>x.to<=y.from_)->(∀ o∈out,∀ s∈l,o.to<=s.from_)->Can (l.foldl ext out)∧∀ y,inS (l.foldl ext out) y=(inS out y || inS l y)
 |[],out,hc,_,_,_=>⟨hc,fun y=>by simp[vD]⟩
 |s::l,out,hc,hv,hp,hb=>by
  rw[pairwise_cons]at hp;obtain⟨m1,m2,m3⟩:=adH hc (hv s (by simp)) (fun o ho=>hb o ho s (by simp));obtain⟨f1,f2⟩:=Uz l (ext out s) m1 (fun t ht=>hv t (by simp[ht])) hp.2 (fun o ho t ht=>Int.le_trans (m2 o ho) (hp.1 t ht));refine⟨f1,fun y=>?_⟩;rw[foldl_cons,f2,m3,Bool.or_assoc,<- lM];rfl
def jg (r:aj) (x y:Int):Bool:=(decide (r.x0<=x)&&decide (x < r.x1))&&(decide (r.y0<=y)&&decide (y < r.y1))
theorem Ep {n:Nat} {l:List aj} {φ:(aj×Unit)->Option Bool} (p:aj->Bool) (h:∀ x∈l,φ (x,())=some (p x)) (hl:l.length < 1099511627776) (hn:l.length < n):qd n l φ=some (ZW p l):=uj p h hl hn
theorem Av {n:Nat} {l:List aj} {φ:(aj×Unit)->Option Bool} (p:aj->Bool) (h:∀ x∈l,φ (x,())=some (p x)) (hl:l.length < 1099511627776) (hn:l.length < n):jc n l φ=some (l.any p):=by
 unfold jc;rw[Ep p h hl hn,bind_some,OI]
theorem Ye (r:aj) (x y:Int):Ut r x y=some (OkR r&&jg r x y):=by
 unfold Ut qQ;rw[oz];simp only[bind_some];cases hr:OkR r with
 |true=>
  simp only[cond_true,bind_some,Bool.true_and,jg,ge_iff_le];cases decide (r.x0<=x)<;>cases decide (x < r.x1)<;>cases decide (r.y0<=y)<;>rfl
 |false=>
  simp only[cond_false,bind_some,Bool.false_and,ge_iff_le];by_cases h:(0:Int)<=x
  ·have:decide (x < 0)=false:=(by simp;omega);simp[h,this]
  ·simp[h]
theorem Li {n:Nat} {a:List aj} (x y:Int) (ha:a.length<=900) (hn:1000<=n):G9 n a x y=some (rightL a&&aV a x y):=by
 unfold G9;rw[Av (fun r=>OkR r&&jg r x y) (fun r _=>by show Fz r x y=_;unfold Fz;rw[Ye];rfl) (by omega) (by omega),lN (by omega) (by omega) hn];simp only[bind_some];cases hr:rightL a with
 |false=>cases a.any fun r=>OkR r&&jg r x y<;>rfl
 |true=>
  have e:(a.any fun r=>OkR r&&jg r x y)=aV a x y:=by
   unfold aV jg;rw[Bool.eq_iff_iff,any_eq_true,any_eq_true];constructor
   ·rintro⟨r,h1,h2⟩;rw[and_eq_true]at h2;exact⟨r,h1,h2.2⟩
   ·rintro⟨r,h1,h2⟩;exact⟨r,h1,by rw[(dU hr).1 r h1,h2];rfl⟩
  rw[e];cases aV a x y<;>rfl
abbrev ltY (a b:aj):Bool:=decide (a.y0 < b.y0)
theorem OT:Go.Sort.SWO ltY where
 irrefl x:=by simp[ltY]
 trans x y z h1 h2:=by simp only[ltY,decide_eq_true_eq]at *;omega
 ntrans x y z h1 h2:=by simp only[ltY,decide_eq_false_iff_not]at *;omega
instance:Inhabited aj:=⟨aj.mk 0 0 0 0⟩
theorem ab9 (n:Nat) (rc:List aj->Int->Int->Int->((aj×aj×Unit)->Option Int)->Option (List aj)) (φ:(aj×aj×Unit)->Option Int) (l:List aj) (a b d:Int):fF n rc l a b d φ=iy (fun x y=>φ (x,y,())) (fun r=>decide (r < 0)) aM aN n (fun l a b d=>rc l a b d φ) l a b d:=by kernel_rfl
theorem UA (n:Nat) (φ:(aj×aj×Unit)->Option Int):∀ m l a b d,bX n m l a b d φ=fB (fun x y=>φ (x,y,())) (fun r=>decide (r < 0)) aM aN n m l a b d
 | 0,l,a,b,d=>rfl
 |m+1,l,a,b,d=>by
  have e:(fun l a b d=>bX n m l a b d φ)=fB (fun x y=>φ (x,y,())) (fun r=>decide (r < 0)) aM aN n m:=by
   funext l a b d;exact UA n φ m l a b d
  show fF n (bX n m) l a b d φ=iy (fun x y=>φ (x,y,())) (fun r=>decide (r < 0)) aM aN n (fB (fun x y=>φ (x,y,())) (fun r=>decide (r < 0)) aM aN n m) l a b d;rw[<- e];exact ab9 n (bX n m) φ l a b d
theorem FM {n:Nat} {l:List aj} {φ:(aj×aj×Unit)->Option Int} (f:aj->aj->Int) (hφ:∀ x y,φ (x,y,())=some (f x y)) (hf:∀ x y,decide (f x y < 0)=ltY x y) (hl:l.length < 1099511627776) (hn:l.length < n):mq n l φ=some (wJ ltY l):=by
 unfold mq kg;rw[lX (by omega),yE (by omega)];simp only[bind_some,aC,cond_true,UA];rw[wK (lt:=ltY) OT (f:=f) (q:=fun r=>decide (r < 0)) hφ hf adA adB (by omega) hn hn];rfl
def JM (r:aj):aA:=⟨r.y0,r.y1⟩
theorem Yf (x0 x1:Int) (c:List aA):(ax x0 x1 c).map JM=c:=by
 unfold ax;rw[List.map_map];exact List.map_id'' (fun s=>rfl) c
theorem aQ (x0 x1:Int) (c:List aA):(ax x0 x1 c).length=c.length:=by simp[ax]
theorem Ra {x0 x1:Int} {c:List aA} {i:Nat} (h:i < c.length):at? (ax x0 x1 c) (i:Int)=some ⟨x0,c[i].from_,x1,c[i].to⟩:=by
 rw[bn (by rw[aQ];exact h)];simp[ax]
theorem UB {x0 x1:Int}:∀ {L:List aj},(∀ r∈L,r.x0=x0∧r.x1=x1)->L=ax x0 x1 (L.map JM)
 |[],_=>rfl
 |r::L,h=>by
  have h1:=h r mem_cons_self;have h2:=UB (L:=L) fun q hq=>h q (mem_cons_of_mem _ hq);show r::L=⟨x0,r.y0,x1,r.y1⟩::ax x0 x1 (L.map JM);rw[<- h2];obtain⟨a,b,c,d⟩:=r;obtain⟨rfl,rfl⟩:=h1;rfl
def BZ (l:List aj) (x0 x1:Int):List aA:=(l.filter fun r=>decide (r.x0<=x0)&&decide (x1<=r.x1)).map JM
theorem Rb (s t:aI) (h:s.column≠t.column):∀ (S:List aI) (x0 x1:Int) (c:List aA),xB x0 x1 c (S++[t,s])=xB x0 x1 c (S++[t])++ax s.x0 s.x1 s.column
 |[],x0,x1,c=>by
  simp only[nil_append,xB];split
  ·rename_i e;rw[if_neg (fun h'=>h (h'.trans e.symm))]
  ·rw[append_assoc]
 |a::S,x0,x1,c=>by
  simp only[List.cons_append,xB];split
  ·exact Rb s t h S _ _ _
  ·rw[Rb s t h S,append_assoc]
theorem Lj (s t:aI) (h:s.column=t.column):∀ (S:List aI) (x0 x1:Int) (c:List aA),∃ pre x',xB x0 x1 c (S++[t])=pre++ax x' t.x1 t.column∧xB x0 x1 c (S++[t,s])=pre++ax x' s.x1 t.column
 |[],x0,x1,c=>by
  simp only[nil_append,xB];split
  ·rename_i e;refine⟨[],x0,by rw[e];rfl,?_⟩;rw[if_pos (h.trans e),e];rfl
  ·exact⟨ax x0 x1 c,t.x0,rfl,rfl⟩
 |a::S,x0,x1,c=>by
  simp only[List.cons_append,xB];split
  ·exact Lj s t h S _ _ _
  ·obtain⟨pre,x',h1,h2⟩:=Lj s t h S a.x0 a.x1 a.column;exact⟨ax x0 x1 c++pre,x',by rw[h1,append_assoc],by rw[h2,append_assoc]⟩
theorem Rc (s t:aI) (h:s.column≠t.column) (S:List aI):aP (S++[t,s])=aP (S++[t])++ax s.x0 s.x1 s.column:=by
 cases S with
 |nil=>simp only[nil_append,aP,xB,if_neg h]
 |cons a S=>exact Rb s t h S _ _ _
theorem Nl (s t:aI) (h:s.column=t.column) (S:List aI):∃ pre x',aP (S++[t])=pre++ax x' t.x1 t.column∧aP (S++[t,s])=pre++ax x' s.x1 t.column:=by
 cases S with
 |nil=>exact⟨[],t.x0,rfl,by simp only[nil_append,aP,xB,if_pos h]⟩
 |cons a S=>exact Lj s t h S _ _ _
def Nn (P:List aI) (i:Nat):List aj:=match (P.take i).getLast? with
 |some s=>ax s.x0 s.x1 s.column
 |none=>[]
def unq (s:aK):aA:=⟨s.from_,s.to⟩
def cS (c:List aK):List aA:=c.map unq
def tS (s:aS):aI:=⟨s.x0,s.x1,cS s.column⟩
def Aw (d:Int) (c:List aA):List aK:=(c.filter fun s=>decide (s.from_+d < s.to - d)).map fun s=>⟨s.from_+d,s.to - d⟩
theorem adI (d:Int) (c:List aA):cS (Aw d c)=(c.filter fun s=>decide (s.from_+d < s.to - d)).map fun s=>⟨s.from_+d,s.to - d⟩:=by simp[cS,Aw,unq,Function.comp_def]
theorem Yg {d:Int} (hd:0<=d) {c:List aA} (h:Can c):Can (cS (Aw d c)):=by
 rw[adI];refine⟨?_,fun s hs=>?_⟩
 ·rw[List.pairwise_map];refine (h.1.filter _).imp fun {a b} hab=>?_;show a.to - d < b.from_+d;omega
 ·obtain⟨t,ht,rfl⟩:=mem_map.1 hs;have:=(mem_filter.1 ht).2;simpa using this
theorem abe {d:Int} (hd:0<=d) {c:List aA} (h:Can c) (y:Int):inS (cS (Aw d c)) y=true↔∀ z,y - d<=z->z<=y+d->inS c z=true:=by
 rw[adI,rW];constructor
 ·rintro⟨s,hs,h1,h2⟩ z hz1 hz2;obtain⟨t,ht,rfl⟩:=mem_map.1 hs;have ht':=(mem_filter.1 ht).1;simp only at h1 h2;exact (rW c z).2 ⟨t,ht',by omega,by omega⟩
 ·intro hall;obtain⟨t,ht,h1,h2⟩:=(rW c (y - d)).1 (hall (y - d) (by omega) (by omega));by_cases hto:t.to<=y+d
  ·exfalso;obtain⟨u,hu,g1,g2⟩:=(rW c t.to).1 (hall t.to (by omega) hto);have ot:=h.2 t ht;obtain⟨i,hi,rfl⟩:=mem_iff_getElem.1 ht;obtain⟨j,hj,rfl⟩:=mem_iff_getElem.1 hu;have pw:=List.pairwise_iff_getElem.1 h.1;rcases Nat.lt_trichotomy i j with e |e |e
   ·have:=pw i j hi hj e;omega
   ·subst e;omega
   ·have:=pw j i hj hi e;omega
  ·refine⟨⟨t.from_+d,t.to - d⟩,mem_map.2 ⟨t,mem_filter.2 ⟨ht,?_⟩,rfl⟩,?_,?_⟩
   ·simp;omega
   ·show t.from_+d<=y;omega
   ·show y < t.to - d;omega
def Ll (a b:List aK):List aK:=a.flatMap fun x=>(b.filter fun y=>decide (max x.from_ y.from_ < min x.to y.to)).map fun y=>⟨max x.from_ y.from_,min x.to y.to⟩
theorem JN {a b:List aK} {s:aK}:s∈Ll a b↔∃ x∈a,∃ y∈b,max x.from_ y.from_ < min x.to y.to∧s=⟨max x.from_ y.from_,min x.to y.to⟩:=by
 simp only[Ll,mem_flatMap,mem_map,mem_filter,decide_eq_true_eq];constructor
 ·rintro⟨x,hx,y,⟨hy,h⟩,rfl⟩;exact⟨x,hx,y,hy,h,rfl⟩
 ·rintro⟨x,hx,y,hy,h,rfl⟩;exact⟨x,hx,y,⟨hy,h⟩,rfl⟩
theorem aae (c:List aK) (y:Int):inS (cS c) y=true↔∃ s∈c,s.from_<=y∧y < s.to:=by
 rw[rW];constructor
 ·rintro⟨s,hs,h⟩;obtain⟨t,ht,rfl⟩:=mem_map.1 hs;exact⟨t,ht,h⟩
 ·rintro⟨s,hs,h⟩;exact⟨unq s,mem_map.2 ⟨s,hs,rfl⟩,h⟩
theorem adJ (c:List aK):Can (cS c)↔c.Pairwise (fun a b=>a.to < b.from_)∧∀ s∈c,s.from_ < s.to:=by
 unfold Can cS;rw[List.pairwise_map];constructor
 ·rintro⟨h1,h2⟩;exact⟨h1,fun s hs=>h2 _ (mem_map.2 ⟨s,hs,rfl⟩)⟩
 ·rintro⟨h1,h2⟩;exact⟨h1,fun s hs=>by obtain⟨t,ht,rfl⟩:=mem_map.1 hs;exact h2 t ht⟩
theorem Yh {a b:List aK} (ha:Can (cS a)) (hb:Can (cS b)):Can (cS (Ll a b)):=by
 rw[adJ]at*;refine⟨?_,fun s hs=>?_⟩
 ·unfold Ll;rw[List.pairwise_flatMap];refine⟨fun x _=>?_,ha.1.imp fun {x x'} hx=>?_⟩
  ·rw[List.pairwise_map];refine (hb.1.filter _).imp fun {y y'} hy=>?_;show min x.to y.to < max x.from_ y'.from_;omega
  ·intro p hp q hq;obtain⟨y,_,rfl⟩:=mem_map.1 hp;obtain⟨y',_,rfl⟩:=mem_map.1 hq;show min x.to y.to < max x'.from_ y'.from_;omega
 ·obtain⟨x,_,y,_,h,rfl⟩:=JN.1 hs;exact h
theorem aeL (a b:List aK) (y:Int):inS (cS (Ll a b)) y=(inS (cS a) y&&inS (cS b) y):=by
 rw[Bool.eq_iff_iff,and_eq_true,aae,aae,aae];constructor
 ·rintro⟨s,hs,h1,h2⟩;obtain⟨p,hp,q,hq,_,rfl⟩:=JN.1 hs;simp only at h1 h2;exact⟨⟨p,hp,by omega,by omega⟩,⟨q,hq,by omega,by omega⟩⟩
 ·rintro⟨⟨p,hp,h1,h2⟩,⟨q,hq,h3,h4⟩⟩;exact⟨_,JN.2 ⟨p,hp,q,hq,by omega,rfl⟩,by show max p.from_ q.from_<=y;omega,by show y < min p.to q.to;omega⟩
def Hq (F:List Int) (c:List aK):Prop:=Can (cS c)∧∀ s∈c,s.from_∈F
theorem Lm {α:Type} [DecidableEq α]:∀ {l m:List α},l.Pairwise (· ≠ ·)->(∀ x∈l,x∈m)->l.length<=m.length
 |[],_,_,_=>by simp
 |a::l,m,h,hm=>by
  have h1:=pairwise_cons.1 h;have:=Lm (l:=l) (m:=m.erase a) h1.2 fun x hx=>(List.mem_erase_of_ne (fun e=>h1.1 x hx e.symm)).2 (hm x (mem_cons_of_mem _ hx));have e:=List.length_erase_of_mem (hm a mem_cons_self);have p:=List.length_pos_of_mem (hm a mem_cons_self);rw[length_cons];omega
theorem Rf {F:List Int} {c:List aK} (h:Hq F c):c.length<=F.length:=by
 obtain⟨h1,h2⟩:=h;rw[adJ]at h1;have:=Lm (l:=c.map (·.from_)) (m:=F) (by
  rw[List.pairwise_map];refine (List.Pairwise.and_mem.1 h1.1).imp fun {a b} hab=>?_;have:=h1.2 a hab.1;have:=hab.2.2;omega) (fun x hx=>by obtain⟨s,hs,rfl⟩:=mem_map.1 hx;exact h2 s hs)
 simpa using this
theorem UC {F:List Int} {a b:List aK} (ha:Hq F a) (hb:Hq F b):Hq F (Ll a b):=by
 refine⟨Yh ha.1 hb.1,fun s hs=>?_⟩;obtain⟨x,hx,y,hy,_,rfl⟩:=JN.1 hs;show max x.from_ y.from_∈F;have h1:=ha.2 x hx;have h2:=hb.2 y hy;rcases Int.le_total x.from_ y.from_ with h |h
 ·rw[Int.max_eq_right h];exact h2
 ·rw[Int.max_eq_left h];exact h1
def jw (x d:Int):List aS->Int->Bool->Bool->List aK->Int×Bool×List aK
 |[],nx,gap,_,out=>(nx,gap,out)
 |s::l,nx,gap,first,out=>
  bif gap || (decide (s.x1<=nx) || decide (s.x0>x+d))then jw x d l nx gap first out
  else bif decide (s.x0>nx)then jw x d l nx true first out
  else bif first then jw x d l s.x1 gap false s.column else jw x d l s.x1 gap false (Ll out s.column)
def Hr (l:List aS) (x d:Int):List aK:=
 bif (jw x d l (x - d) false true []).2.1 || decide ((jw x d l (x - d) false true []).1<=x+d)then []else (jw x d l (x - d) false true []).2.2
def V6 (x d:Int) (r:Int×Bool×List aK):List aK:=bif r.2.1 || decide (r.1<=x+d)then []else r.2.2
theorem aeM (l:List aS) (x d:Int):Hr l x d=V6 x d (jw x d l (x - d) false true []):=rfl
theorem UD (x d:Int):∀ (l:List aS) (nx:Int) (f:Bool) (out:List aK),(jw x d l nx true f out).2.1=true
 |[],_,_,_=>rfl
 |s::l,nx,f,out=>by
  simp only[jw,Bool.true_or,cond_true];exact UD x d l nx f out
def Yi (l:List aS):Prop:=l.Pairwise (fun s t=>s.x1<=t.x0)∧∀ s∈l,s.x0 < s.x1∧Can (cS s.column)
theorem aaf {s:aS} {l:List aS} (h:Yi (s::l)):Yi l:=⟨(pairwise_cons.1 h.1).2,fun t ht=>h.2 t (mem_cons_of_mem _ ht)⟩
def jv (l:List aS) (x:Int):List aA:=d9 (l.map tS) x
theorem UE {s:aS} {l:List aS} {x:Int} (h1:s.x0<=x) (h2:x < s.x1):jv (s::l) x=cS s.column:=by simp[jv,d9,tS,h1,h2]
theorem Ca {s:aS} {l:List aS} {x:Int} (h:x < s.x0∨s.x1<=x):jv (s::l) x=jv l x:=by
 have:(decide (s.x0<=x)&&decide (x < s.x1))=false:=by rw[Bool.and_eq_false_iff];simp;omega
 simp[jv,d9,tS,this]
theorem Er:∀ {l:List aS} {x:Int},(∀ s∈l,x < s.x0∨s.x1<=x)->jv l x=[]
 |[],_,_=>rfl
 |s::l,x,h=>by
  rw[Ca (h s mem_cons_self)];exact Er fun t ht=>h t (mem_cons_of_mem _ ht)
theorem Ht (x d:Int):∀ (l:List aS),Yi l->∀ (nx:Int) (first:Bool) (out:List aK),
 (first=true->nx<=x+d)->(first=false->Can (cS out)∧∀ s∈l,nx<=s.x0)->
 Can (cS (V6 x d (jw x d l nx false first out)))∧
 ∀ y,inS (cS (V6 x d (jw x d l nx false first out))) y=true↔(first=false->inS (cS out) y=true)∧∀ z,nx<=z->z<=x+d->inS (jv l z) y=true
 |[],_,nx,first,out,h1,h2=>by
  have e0:jw x d [] nx false first out=(nx,false,out):=rfl
  rw[e0];have e1:V6 x d (nx,false,out)=bif decide (nx<=x+d)then []else out:=by simp[V6]
  rw[e1];by_cases hn:nx<=x+d
  ·have:decide (nx<=x+d)=true:=(by simpa using hn);simp only[this,cond_true];refine⟨yF,fun y=>⟨fun h=>by simp[cS,inS]at h,fun h=>?_⟩⟩;have:=h.2 nx (Int.le_refl _) hn;simp[jv,d9,inS]at this
  ·have:decide (nx<=x+d)=false:=(by simpa using hn);simp only[this,cond_false];cases first with
   |true=>exact absurd (h1 rfl) hn
   |false=>
    refine⟨(h2 rfl).1,fun y=>⟨fun h=>⟨fun _=>h,fun z hz1 hz2=>by omega⟩,fun h=>h.1 rfl⟩⟩
 |s::l,hs,nx,first,out,h1,h2=>by
  have hl:=aaf hs;obtain⟨hs0,hsc⟩:=hs.2 s mem_cons_self;have hb:=(pairwise_cons.1 hs.1).1;simp only[jw,Bool.false_or];by_cases c1:s.x1<=nx∨s.x0>x+d
  ·have e:(decide (s.x1<=nx) || decide (s.x0>x+d))=true:=(by simpa using c1);simp only[e,cond_true];obtain⟨g1,g2⟩:=Ht x d l hl nx first out h1 fun hf=>⟨(h2 hf).1,fun t ht=>(h2 hf).2 t (mem_cons_of_mem _ ht)⟩
   refine⟨g1,fun y=>?_⟩;rw[g2];have:∀ z,nx<=z->z<=x+d->jv (s::l) z=jv l z:=fun z hz1 hz2=>Ca (by omega);constructor
   ·rintro⟨a,b⟩;exact⟨a,fun z hz1 hz2=>by rw[this z hz1 hz2];exact b z hz1 hz2⟩
   ·rintro⟨a,b⟩;exact⟨a,fun z hz1 hz2=>by rw[<- this z hz1 hz2];exact b z hz1 hz2⟩
  ·have e:(decide (s.x1<=nx) || decide (s.x0>x+d))=false:=(by rw[Bool.or_eq_false_iff,decide_eq_false_iff_not,decide_eq_false_iff_not];omega);simp only[e,cond_false];by_cases c2:s.x0>nx
   ·have e2:decide (s.x0>nx)=true:=(by simpa using c2);simp only[e2,cond_true];have wn:V6 x d (jw x d l nx true first out)=[]:=by
     unfold V6;rw[UD];rfl
    rw[wn];refine⟨yF,fun y=>⟨fun h=>by simp[cS,inS]at h,fun h=>?_⟩⟩;have:=h.2 nx (Int.le_refl _) (by omega);rw[Er (fun t ht=>?_)]at this
    ·simp[inS]at this
    ·rcases mem_cons.1 ht with rfl |ht
     ·left;omega
     ·left;have:=hb t ht;omega
   ·have e2:decide (s.x0>nx)=false:=(by simpa using c2);simp only[e2,cond_false]
    have key:∀ out',Can (cS out')->Can (cS (V6 x d (jw x d l s.x1 false false out')))∧
     ∀ y,inS (cS (V6 x d (jw x d l s.x1 false false out'))) y=true↔inS (cS out') y=true∧∀ z,s.x1<=z->z<=x+d->inS (jv l z) y=true:=by
     intro out' ho;obtain⟨g1,g2⟩:=Ht x d l hl s.x1 false out' (by simp) fun _=>⟨ho,fun t ht=>hb t ht⟩;exact⟨g1,fun y=>by rw[g2];simp⟩
    have split:∀ y,(∀ z,nx<=z->z<=x+d->inS (jv (s::l) z) y=true)↔(inS (cS s.column) y=true∨x+d < nx)∧∀ z,s.x1<=z->z<=x+d->inS (jv l z) y=true:=by
     intro y;constructor
     ·intro h;refine⟨?_,fun z hz1 hz2=>?_⟩
      ·by_cases hn:nx<=x+d
       ·have:=h nx (Int.le_refl _) hn;rw[UE (by omega) (by omega)]at this;exact .inl this
       ·right;omega
      ·have:=h z (by omega) hz2
       rwa [Ca (by omega)]at this
     ·rintro⟨a,b⟩ z hz1 hz2;by_cases hz:z < s.x1
      ·rw[UE (by omega) hz];rcases a with a |a
       ·exact a
       ·omega
      ·rw[Ca (by omega)];exact b z (by omega) hz2
    cases first with
    |true=>
     simp only[cond_true];obtain⟨g1,g2⟩:=key s.column hsc;refine⟨g1,fun y=>?_⟩;rw[g2,split];have:=h1 rfl;constructor
     ·rintro⟨a,b⟩;exact⟨by simp,.inl a,b⟩
     ·rintro⟨_,a |a,b⟩
      ·exact⟨a,b⟩
      ·omega
    |false=>
     simp only[cond_false];obtain⟨k1,k2⟩:=h2 rfl;have kn:=k2 s mem_cons_self;obtain⟨g1,g2⟩:=key (Ll out s.column) (Yh k1 hsc);refine⟨g1,fun y=>?_⟩;rw[g2,split,aeL,and_eq_true];constructor
     ·rintro⟨⟨a,b⟩,c⟩;exact⟨fun _=>a,.inl b,c⟩
     ·rintro⟨a,b |b,c⟩
      ·exact⟨⟨a trivial,b⟩,c⟩
      ·omega
theorem acd {l:List aS} (h:Yi l) {x d:Int} (hd:0<=d):Can (cS (Hr l x d))∧∀ y,inS (cS (Hr l x d)) y=true↔∀ z,x - d<=z->z<=x+d->inS (jv l z) y=true:=by
 obtain⟨g1,g2⟩:=Ht x d l h (x - d) true [] (fun _=>by omega) (by simp);exact⟨g1,fun y=>by rw[aeM,g2];simp⟩
theorem Rh {F:List Int} (x d:Int):∀ (l:List aS),(∀ s∈l,Hq F s.column)->∀ (nx:Int) (gap first:Bool) (out:List aK),Hq F out->Hq F (jw x d l nx gap first out).2.2
 |[],_,_,_,_,_,h=>h
 |s::l,hl,nx,gap,first,out,h=>by
  have ih:=Rh x d l fun t ht=>hl t (mem_cons_of_mem _ ht);simp only[jw];cases gap || (decide (s.x1<=nx) || decide (s.x0>x+d))with
  |true=>exact ih _ _ _ _ h
  |false=>
   cases decide (s.x0>nx)with
   |true=>exact ih _ _ _ _ h
   |false=>
    cases first with
    |true=>exact ih _ _ _ _ (hl s mem_cons_self)
    |false=>exact ih _ _ _ _ (UC h (hl s mem_cons_self))
theorem Ri (F:List Int):Hq F []:=⟨yF,by simp⟩
theorem ace {F:List Int} {l:List aS} (h:∀ s∈l,Hq F s.column) (x d:Int):Hq F (Hr l x d):=by
 unfold Hr;cases (jw x d l (x - d) false true []).2.1 || decide ((jw x d l (x - d) false true []).1<=x+d)with
 |true=>exact Ri F
 |false=>exact Rh x d l h _ _ _ _ (Ri F)
theorem aag {a d:Int} (h1:0<=a∧a<=1048576) (h2:0<=d∧d<=1048576):i64.wrap (a+d)=a+d:=aZ (by omega) (by omega)
theorem aah {a d:Int} (h1:0<=a∧a<=1048576) (h2:0<=d∧d<=1048576):i64.wrap (a - d)=a - d:=aZ (by omega) (by omega)
theorem aai (d:Int) (out:List aS) (r:aj) (h:∀ c∈out.getLast?,c.x0≠r.x0):fI d out r=fI d (out++[⟨r.x0,r.x1,[]⟩]) r:=by
 unfold fI;cases ho:out.getLast? with
 |none=>
  have:out=[]:=List.getLast?_eq_none_iff.1 ho;subst this;simp
 |some c=>
  have:=h c (by rw[ho];rfl);simp[this]
theorem Yj {d:Int} (hd:0<=d∧d<=1048576) (out:List aS) (x0 x1:Int) (col:List aK) (s:aA) (hs:0<=s.from_∧s.from_ < s.to∧s.to<=1048576):
 fI d (out++[⟨x0,x1,col⟩]) ⟨x0,s.from_,x1,s.to⟩=out++[⟨x0,x1,col++Aw d [s]⟩]:=by
 have w1:i64.wrap (s.from_+d)=s.from_+d:=aag (by omega) hd;have w2:i64.wrap (s.to - d)=s.to - d:=aah (by omega) hd;unfold fI Aw;simp only[List.getLast?_append,List.getLast?_singleton,Option.or_some,Option.getD_some,if_true,w1,w2];by_cases h:s.from_+d < s.to - d
 ·simp[h]
 ·simp[h]
theorem Yk (d:Int) (a b:List aA):Aw d (a++b)=Aw d a++Aw d b:=by simp[Aw]
theorem UF {d:Int} (hd:0<=d∧d<=1048576) (x0 x1:Int):∀ (c:List aA),(∀ s∈c,0<=s.from_∧s.from_ < s.to∧s.to<=1048576)->∀ (out:List aS) (col:List aK),
 (ax x0 x1 c).foldl (fI d) (out++[⟨x0,x1,col⟩])=out++[⟨x0,x1,col++Aw d c⟩]
 |[],_,out,col=>by simp[ax,Aw]
 |s::c,h,out,col=>by
  have e:ax x0 x1 (s::c)=⟨x0,s.from_,x1,s.to⟩::ax x0 x1 c:=rfl;rw[e,foldl_cons,Yj hd _ _ _ _ _ (h s mem_cons_self),UF hd x0 x1 c (fun t ht=>h t (mem_cons_of_mem _ ht))];have:Aw d (s::c)=Aw d [s]++Aw d c:=Yk d [s] c;rw[this,append_assoc]
def ze (d:Int) (s:aI):aS:=⟨s.x0,s.x1,Aw d s.column⟩
theorem Rj {d:Int} (hd:0<=d∧d<=1048576):∀ (R:List aI),Runs R->(∀ s∈R,∀ q∈s.column,0<=q.from_∧q.from_ < q.to∧q.to<=1048576)->∀ (out:List aS),(∀ c∈out.getLast?,∀ s∈R.head?,c.x0 < s.x0)->
 (fG R).foldl (fI d) out=out++R.map (ze d)
 |[],_,_,out,_=>by simp[fG]
 |s::R,h,hb,out,hl=>by
  have hh:=fZ h;have e:fG (s::R)=ax s.x0 s.x1 s.column++fG R:=rfl;rw[e,List.foldl_append];have first:(ax s.x0 s.x1 s.column).foldl (fI d) out=out++[ze d s]:=by
   cases hc:s.column with
   |nil=>exact absurd hc hh.2
   |cons q c=>
    have e2:ax s.x0 s.x1 (q::c)=⟨s.x0,q.from_,s.x1,q.to⟩::ax s.x0 s.x1 c:=rfl;rw[e2,foldl_cons,aai d out _ (fun c' hc'=>by have:=hl c' hc' s rfl;show c'.x0≠s.x0;omega),<- foldl_cons,<- e2];rw[UF hd s.x0 s.x1 (q::c) (fun t ht=>hb s mem_cons_self t (by rw[hc];exact ht))];simp[ze,hc]
  rw[first,Rj hd R (eO h) (fun t ht=>hb t (mem_cons_of_mem _ ht)) _ (fun c hc t ht=>?_)]
  ·simp
  ·simp only[List.getLast?_append,List.getLast?_singleton,Option.mem_def]at hc;have hc:ze d s=c:=(by simpa using hc);subst hc;cases R with
   |nil=>simp at ht
   |cons u R=>
    simp only[List.head?_cons,Option.mem_def,Option.some.injEq]at ht;subst ht;have:=h.2.1;show s.x0 < u.x0;omega
theorem Lp {n:Nat} {b:List aK} (x:aK) (hb:b.length<=1000) (hn:1000 < n) (out:List aK) (ho:out.length<=100000000):
 iter (pX b x) n ((0:Int),out)=some (out++(b.filter fun y=>decide (max x.from_ y.from_ < min x.to y.to)).map fun y=>⟨max x.from_ y.from_,min x.to y.to⟩):=by
 have:=bC (l:=b) (step:=pX b x) (fun i (s:List aK)=>((i:Int),s)) (fun y s=>bif decide (max x.from_ y.from_ < min x.to y.to)then s++[⟨max x.from_ y.from_,min x.to y.to⟩]else s) (fun s=>s) (fun i s=>s.length<=100000000+i)
  (fun i hi s hs=>?_) (fun s hs=>by simp[pX]) n (by omega) out (by omega)
 ·rw[show ((0:Nat):Int)=0 from rfl]at this;rw[this];congr 1;have gen:∀ (ys:List aK) (s:List aK),ys.foldl (fun s y=>bif decide (max x.from_ y.from_ < min x.to y.to)then s++[⟨max x.from_ y.from_,min x.to y.to⟩]else s) s=s++(ys.filter fun y=>decide (max x.from_ y.from_ < min x.to y.to)).map fun y=>⟨max x.from_ y.from_,min x.to y.to⟩:=by
   intro ys
   induction ys with
   |nil=>intro s;simp
   |cons y ys ih=>
    intro s;rw[foldl_cons,ih,List.filter_cons];cases decide (max x.from_ y.from_ < min x.to y.to)<;>simp
  exact gen b out
 ·have ap:bI s.length s.length (sub ([(aK.mk (max x.from_ b[i].from_) (min x.to b[i].to))]:List aK) 0 1).length 1 16=true:=bB (n:=1) (by omega) (by simp only[maxLen];omega);simp only[pX,bF hi,cond_true,bn hi,bind_some,ap,dG,aC,kW];cases decide (max x.from_ b[i].from_ < min x.to b[i].to)with
  |true=>
   refine⟨?_,by simp only[cond_true,length_append,List.length_singleton];omega⟩;simp only[cond_true];rw[ay (by omega)];rfl
  |false=>
   refine⟨?_,by simp only[cond_false];omega⟩;simp only[cond_false];rw[ay (by omega)]
theorem V7 {n:Nat} {a b:List aK} (ha:a.length<=1000) (hb:b.length<=1000) (hn:1000 < n):Fy n a b=some (Ll a b):=by
 unfold Fy
 have:=bC (l:=a) (step:=vw n a b) (fun i (s:List aK)=>((i:Int),s)) (fun x s=>s++(b.filter fun y=>decide (max x.from_ y.from_ < min x.to y.to)).map fun y=>⟨max x.from_ y.from_,min x.to y.to⟩) (fun s=>s) (fun i s=>s.length<=1000*i)
  (fun i hi s hs=>?_) (fun s hs=>by simp[vw]) n (by omega) [] (by simp)
 ·rw[show ((0:Nat):Int)=0 from rfl]at this;simp only[length_nil,aC,cond_true,this,bind_some,bE];congr 1;have gen:∀ (xs:List aK) (s:List aK),xs.foldl (fun s x=>s++(b.filter fun y=>decide (max x.from_ y.from_ < min x.to y.to)).map fun y=>⟨max x.from_ y.from_,min x.to y.to⟩) s=s++Ll xs b:=by
   intro xs
   induction xs with
   |nil=>intro s;simp[Ll]
   |cons x xs ih=>intro s;rw[foldl_cons,ih];simp[Ll]
  simpa using gen a []
 ·have hlen:((b.filter fun y=>decide (max (a[i]).from_ y.from_ < min (a[i]).to y.to)).map fun y=>(⟨max (a[i]).from_ y.from_,min (a[i]).to y.to⟩:aK)).length<=1000:=by
   rw[length_map];exact Nat.le_trans (length_filter_le _ _) hb
  simp only[vw,bF hi,cond_true,bn hi,bind_some,aC];rw[Lp _ hb hn s (by omega)];simp only[bind_some,aC,cond_true];refine⟨?_,by rw[length_append];omega⟩;rw[ay (by omega)]
theorem Ay {n:Nat} {F:List Int} (hF:F.length<=1000) {x d:Int} (hx: -1048576<=x∧x<=3000000) (hd:0<=d∧d<=1048576) (L:List aS) (hL:∀ s∈L,Hq F s.column) (hn:1000 < n) (hl:L.length<=1000):
 ∀ (m i:Nat) (nx:Int) (gap first:Bool) (out:List aK),i+m=L.length->Hq F out->∀ k,m < k->
   iter (pY n L) k ((i:Int),x,d,nx,gap,first,out)=some (x,d,(jw x d (L.drop i) nx gap first out).1,(jw x d (L.drop i) nx gap first out).2.1,(jw x d (L.drop i) nx gap first out).2.2)
 | 0,i,nx,gap,first,out,hi,ho,k,hk=>by
  obtain⟨k,rfl⟩:∃ j,k=j+1:=⟨k - 1,by omega⟩;have:i=L.length:=by omega
  subst this;refine aU ?_;simp[pY,jw]
 |m+1,i,nx,gap,first,out,hi,ho,k,hk=>by
  obtain⟨k,rfl⟩:∃ j,k=j+1:=⟨k - 1,by omega⟩;have hil:i < L.length:=by omega
  have w:i64.wrap (x+d)=x+d:=aZ (by omega) (by omega);have ih:=fun nx gap first out ho=>Ay hF hx hd L hL hn hl m (i+1) nx gap first out (by omega) ho k (by omega)
  have hdr:L.drop i=L[i]::L.drop (i+1):=drop_eq_getElem_cons hil;have hc:=hL _ (getElem_mem hil);rw[hdr];simp only[jw]
  have st:pY n L ((i:Int),x,d,nx,gap,first,out)=some (.inl (((i+1:Nat):Int),x,d,
   bif gap || (decide (L[i].x1<=nx) || decide (L[i].x0>x+d))then nx else bif decide (L[i].x0>nx)then nx else L[i].x1,
   bif gap || (decide (L[i].x1<=nx) || decide (L[i].x0>x+d))then gap else bif decide (L[i].x0>nx)then true else gap,
   bif gap || (decide (L[i].x1<=nx) || decide (L[i].x0>x+d))then first else bif decide (L[i].x0>nx)then first else false,
   bif gap || (decide (L[i].x1<=nx) || decide (L[i].x0>x+d))then out else bif decide (L[i].x0>nx)then out else bif first then L[i].column else Ll out L[i].column)):=by
   have lo:=Rf ho;have lc:=Rf hc;simp only[pY,bF hil,cond_true,bn hil,bind_some,BU,w,kW,V7 (n:=n) (a:=out) (b:=L[i].column) (by omega) (by omega) hn,bE,aC,ay (show i < 9223372036854775807 by omega)];cases gap<;>cases decide (L[i].x1<=nx)<;>cases decide (L[i].x0>x+d)<;>cases decide (L[i].x0>nx)<;>cases first<;>rfl
  rw[bT st,ih]
  ·cases gap<;>cases decide (L[i].x1<=nx)<;>cases decide (L[i].x0>x+d)<;>cases decide (L[i].x0>nx)<;>cases first<;>rfl
  ·cases gap || (decide (L[i].x1<=nx) || decide (L[i].x0>x+d))with
   |true=>exact ho
   |false=>
    cases decide (L[i].x0>nx)with
    |true=>exact ho
    |false=>
     cases first with
     |true=>exact hc
     |false=>exact UC ho hc
theorem V8 {n:Nat} {F:List Int} (hF:F.length<=1000) {x d:Int} (hx: -1048576<=x∧x<=3000000) (hd:0<=d∧d<=1048576) (L:List aS) (hL:∀ s∈L,Hq F s.column) (hn:1000 < n) (hl:L.length<=1000):Al n L x d=some (Hr L x d):=by
 unfold Al;have w1:i64.wrap (x - d)=x - d:=aZ (by omega) (by omega);have w2:i64.wrap (x+d)=x+d:=aZ (by omega) (by omega);have:=Ay hF hx hd L hL hn hl L.length 0 (x - d) false true [] (by omega) (Ri F) n (by omega);rw[show ((0:Nat):Int)=0 from rfl,List.drop_zero]at this;rw[w1,this];simp only[bind_some,w2,kW,Hr];cases (jw x d L (x - d) false true []).2.1<;>cases decide ((jw x d L (x - d) false true []).1<=x+d)<;>rfl
def dR (d:Int) (a:List aj):List aS:=(Au (aJ a)).map (ze d)
def xsL (d:Int) (L:List aS):List Int:=abV (L.flatMap fun s=>[s.x0+d,s.x1+d,s.x0 - d,s.x1 - d])
def jy (d:Int) (L:List aS):List aI:=mY (fun a b=>⟨a,b,cS (Hr L a d)⟩) (xsL d L)
def kT (a:List aj) (d:Int):List aj×Int:=
 if (decide (0<=d)&&(decide (d<=1048576)&&rightL a))=true then (if (aP (jy d (dR d a))).length>200 then ([],6)else (aP (jy d (dR d a)),0))else ([],1)
structure aaj (R:List aI):Prop where
 runs:Runs R
 len:R.length<=200
 col:∀ s∈R,Can s.column∧∀ q∈s.column,0<=q.from_∧q.from_ < q.to∧q.to<=1048576
 xs:∀ s∈R,0<=s.x0∧s.x0 < s.x1∧s.x1<=1048576
 froms:(R.flatMap fun s=>s.column.map (·.from_)).length<=200
theorem Yl (R:List aI):(fG R).length=(R.flatMap fun s=>s.column.map (·.from_)).length:=by
 induction R with
 |nil=>rfl
 |cons s R ih=>
  have e:fG (s::R)=ax s.x0 s.x1 s.column++fG R:=rfl;rw[e,length_append,ih,List.flatMap_cons,length_append,aQ,length_map]
theorem Ym:∀ {R:List aI},Runs R->R.length<=(fG R).length
 |[],_=>by simp
 |s::R,h=>by
  have hh:=fZ h;have e:fG (s::R)=ax s.x0 s.x1 s.column++fG R:=rfl;have:=Ym (eO h);have:=List.length_pos_iff.2 hh.2;rw[e,length_append,aQ,length_cons];omega
theorem Hu {a:List aj} (h:rightL a=true):aaj (Au (aJ a))∧fG (Au (aJ a))=a∧∀ x,d9 (Au (aJ a)) x=bG a x:=by
 obtain⟨hv,hl,hw⟩:=dU h;obtain⟨r1,r2⟩:=wU (qf a);rw[tq]at hw;have hc:∀ x,d9 (Au (aJ a)) x=bG a x:=fun x=>by rw[r2,zb]
 have okr:∀ s∈Au (aJ a),∀ q∈s.column,OkR ⟨s.x0,q.from_,s.x1,q.to⟩=true:=fun s hs q hq=>hv _ (by rw[<- hw];exact Nk.2 ⟨s,hs,q,hq,rfl⟩);refine⟨⟨r1,?_,fun s hs=>⟨?_,fun q hq=>?_⟩,fun s hs=>?_,?_⟩,hw,hc⟩
 ·have:=Ym r1;rw[hw]at this;omega
 ·obtain⟨m1,m2⟩:=tu r1 s hs;have:=m2 s.x0 (Int.le_refl _) m1;rw[hc]at this;rw[<- this];exact (je hv s.x0).1
 ·have:=okr s hs q hq;simp only[OkR,and_eq_true,decide_eq_true_eq]at this;omega
 ·obtain⟨m1,m2⟩:=tu r1 s hs;have hne:s.column≠[]:=by
   intro e;have:=m2 s.x0 (Int.le_refl _) m1;have h3:∃ i,∃ hi:i < (Au (aJ a)).length,(Au (aJ a))[i]=s:=mem_iff_getElem.1 hs;have:∀ {R:List aI},Runs R->∀ s∈R,s.column≠[]:=by
    intro R
    induction R with
    |nil=>intro _ s hs;simp at hs
    |cons t R ih=>
     intro hR s hs;rcases mem_cons.1 hs with rfl |hs
     ·exact (fZ hR).2
     ·exact ih (eO hR) s hs
   exact this r1 s hs e
  obtain⟨q,hq⟩:=List.exists_mem_of_ne_nil _ hne;have:=okr s hs q hq;simp only[OkR,and_eq_true,decide_eq_true_eq]at this;omega
 ·rw[<- Yl,hw];exact hl
theorem Lr:∀ {R:List aI},Runs R->R.Pairwise (fun s t=>s.x1<=t.x0)
 |[],_=>List.Pairwise.nil
 |[s],_=>by simp
 |s::t::R,h=>by
  have ih:=Lr (eO h);refine pairwise_cons.2 ⟨fun u hu=>?_,ih⟩;rcases mem_cons.1 hu with rfl |hu
  ·exact h.2.1
  ·have:=(pairwise_cons.1 ih).1 u hu;have:=(fZ (eO h)).1;have:=h.2.1;omega
theorem adK {R:List aI} (h:aaj R) {d:Int} (hd:0<=d):Yi (R.map (ze d)):=by
 refine⟨?_,fun s hs=>?_⟩
 ·rw[List.pairwise_map];exact Lr h.runs
 ·obtain⟨t,ht,rfl⟩:=mem_map.1 hs;exact⟨(h.xs t ht).2.1,Yg hd (h.col t ht).1⟩
theorem aak {R:List aI} (h:aaj R) {d:Int} (hd:0<=d):∀ s∈R.map (ze d),Hq ((R.flatMap fun s=>s.column.map (·.from_)).map (· +d)) s.column:=by
 intro s hs;obtain⟨t,ht,rfl⟩:=mem_map.1 hs;refine⟨Yg hd (h.col t ht).1,fun q hq=>?_⟩;simp only[ze,Aw,mem_map,mem_filter]at hq;obtain⟨p,⟨hp,_⟩,rfl⟩:=hq;exact mem_map.2 ⟨p.from_,mem_flatMap.2 ⟨t,ht,mem_map.2 ⟨p,hp,rfl⟩⟩,rfl⟩
theorem Np (d:Int):∀ (R:List aI) (x:Int),jv (R.map (ze d)) x=cS (Aw d (d9 R x))
 |[],x=>rfl
 |s::R,x=>by
  have ih:=Np d R x;simp only[jv,map_cons,d9,tS,ze]at*;cases decide (s.x0<=x)&&decide (x < s.x1)with
  |true=>rfl
  |false=>exact ih
theorem afH {a b:List aK} (h:cS a=cS b):a=b:=by
 induction a generalizing b with
 |nil=>cases b with
  |nil=>rfl
  |cons y b=>simp[cS]at h
 |cons x a ih=>cases b with
  |nil=>simp[cS]at h
  |cons y b=>
   simp only[cS,map_cons,List.cons.injEq]at h;obtain⟨h1,h2⟩:=h;rw[ih h2];obtain⟨x1,x2⟩:=x;obtain⟨y1,y2⟩:=y;simp only[unq,aA.mk.injEq]at h1;rw[h1.1,h1.2]
theorem Hw (a:List aK):(cS a).length=a.length:=by simp[cS]
theorem JO {n:Nat} {a b:List aK} (hl:a.length < 1099511627776) (hn:a.length < n):p8 n a b=some (decide (a=b)):=by
 have e:p8 n a b=Je n (fun x1 x2:aK=>!((x1.from_==(x2.from_:Int))&&((x1.to==(x2.to:Int))&&true))) a b:=by kernel_rfl
 rw[e];refine DY (fun x y=>?_) hl hn;obtain⟨x1,x2⟩:=x;obtain⟨y1,y2⟩:=y;rw[Bool.eq_iff_iff];simp
theorem Ls {n:Nat} {d:Int} (hd:0<=d∧d<=1048576) {L:List aS} (hx:∀ s∈L,0<=s.x0∧s.x0 < s.x1∧s.x1<=1048576) (hl:L.length<=1000) (hn:1000 < n):
 iter (p9 d L) n ((0:Int),([]:List Int))=some (L.flatMap fun s=>[s.x0+d,s.x1+d,s.x0 - d,s.x1 - d]):=by
 have:=bC (l:=L) (step:=p9 d L) (fun i (s:List Int)=>((i:Int),s)) (fun r s=>s++[i64.wrap (r.x0+d),i64.wrap (r.x1+d),i64.wrap (r.x0 - d),i64.wrap (r.x1 - d)]) (fun s=>s) (fun i s=>s.length<=4*i)
  (fun i hi s hs=>?_) (fun s hs=>by simp[p9]) n (by omega) [] (Nat.le_refl _)
 ·rw[show ((0:Nat):Int)=0 from rfl]at this;rw[this];have gen:∀ (ys:List aS),(∀ s∈ys,0<=s.x0∧s.x0 < s.x1∧s.x1<=1048576)->∀ (s:List Int),ys.foldl (fun s r=>s++[i64.wrap (r.x0+d),i64.wrap (r.x1+d),i64.wrap (r.x0 - d),i64.wrap (r.x1 - d)]) s=s++ys.flatMap fun s=>[s.x0+d,s.x1+d,s.x0 - d,s.x1 - d]:=by
   intro ys
   induction ys with
   |nil=>intro _ s;simp
   |cons y ys ih=>
    intro hy s;have h0:=hy y mem_cons_self;rw[foldl_cons,ih (fun t ht=>hy t (mem_cons_of_mem _ ht)),aag (by omega) hd,aag (by omega) hd,aah (by omega) hd,aah (by omega) hd];simp
  congr 1;simpa using gen L hx []
 ·have ap:bI s.length s.length (sub ([(i64.wrap (L[i].x0+d)),(i64.wrap (L[i].x1+d)),(i64.wrap (L[i].x0 - d)),(i64.wrap (L[i].x1 - d))]:List Int) 0 4).length 4 8=true:=bB (n:=4) (by omega) (by simp only[maxLen];omega);simp only[p9,bE,bF hi,cond_true,bn hi,bind_some,ap,dG,aC];refine⟨?_,by simp;omega⟩;rw[ay (by omega)];rfl
theorem Lu {n:Nat} (es:List Int) (i:Nat) (hi:i+1 < es.length) (he:es.length < 1099511627776) (pre:List aj) (x' x1:Int) (c:List aA) (hl:pre.length+c.length < 1099511627776) (hn:c.length < n):
 iter (qa ((),es) ((i+1:Nat):Int) (pre++ax x' x1 c)) n (((pre.length:Nat):Int),pre++ax x' x1 c)=some (pre++ax x' es[i+1] c):=by
 have:=gP (step:=qa ((),es) ((i+1:Nat):Int) (pre++ax x' x1 c)) (fun j=>(((pre.length+j:Nat):Int),pre++(ax x' es[i+1] (c.take j)++ax x' x1 (c.drop j)))) c.length (pre++ax x' es[i+1] c) (fun j hj=>?_) ?_ n hn
 ·simpa[ax]using this
 ·have lt:(pre++ax x' x1 c).length=pre.length+c.length:=by rw[length_append,aQ]
  have d:decide (((pre.length+j:Nat):Int) < (((pre++ax x' x1 c).length:Nat):Int))=true:=by rw[lt];simp;omega
  have ib:inb ((pre.length+j:Nat):Int) (pre++ax x' x1 c).length=true:=bq (by rw[lt];omega);have tl:(ax x' es[i+1] (c.take j)).length=j:=by rw[aQ,length_take];omega
  have dr:c.drop j=c[j]::c.drop (j+1):=drop_eq_getElem_cons hj;have e1:ax x' x1 (c.drop j)=⟨x',c[j].from_,x1,c[j].to⟩::ax x' x1 (c.drop (j+1)):=by rw[dr];rfl
  have g:at? (pre++(ax x' es[i+1] (c.take j)++ax x' x1 (c.drop j))) (((0:Nat):Int)+((pre.length+j:Nat):Int))=some ⟨x',c[j].from_,x1,c[j].to⟩:=by
   rw[rM,List.getElem?_append_right (by omega),List.getElem?_append_right (by omega),tl,e1];simp
  have z:(((0:Nat):Int)+((pre.length+j:Nat):Int)).toNat=pre.length+j:=by omega
  have sn:ax x' es[i+1] (c.take j++[c[j]])=ax x' es[i+1] (c.take j)++[aj.mk x' c[j].from_ es[i+1] c[j].to]:=by unfold ax;rw[List.map_append];rfl
  have st:(pre++(ax x' es[i+1] (c.take j)++ax x' x1 (c.drop j))).set (pre.length+j) (aj.mk x' c[j].from_ es[i+1] c[j].to)=pre++(ax x' es[i+1] (c.take (j+1))++ax x' x1 (c.drop (j+1))):=by
   rw[List.set_append_right _ _ (by omega),List.set_append_right _ _ (by omega),tl,e1,take_succ_eq_append_getElem hj,sn,Nat.add_sub_cancel_left,Nat.sub_self,List.set_cons_zero,append_assoc];rfl
  simp only[qa,d,cond_true,bE,bn hi,bind_some,ib,g,z,st];rw[ay (by omega)];rfl
 ·have lt:(pre++ax x' x1 c).length=pre.length+c.length:=by rw[length_append,aQ]
  have d:decide (((pre.length+c.length:Nat):Int) < (((pre++ax x' x1 c).length:Nat):Int))=false:=by rw[lt];simp
  simp only[qa,d,cond_false,List.take_length,List.drop_length];simp[ax]
theorem Lv {n:Nat} (es:List Int) (i:Nat) (hi:i+1 < es.length) (he:es.length < 1099511627776) (out:List aj) (c:List aK) (hl:out.length+c.length < 1099511627) (hn:c.length < n):
 iter (qb ((),es) ((i+1:Nat):Int) c) n ((0:Int),out)=some (out++ax (es[i]'(by omega)) es[i+1] (cS c)):=by
 have:=bC (l:=c) (step:=qb ((),es) ((i+1:Nat):Int) c) (fun j (s:List aj)=>((j:Int),s)) (fun q s=>s++[⟨es[i]'(by omega),q.from_,es[i+1],q.to⟩]) (fun s=>s) (fun j s=>s.length<=out.length+j)
  (fun j hj s hs=>?_) (fun s hs=>by simp[qb]) n hn out (Nat.le_refl _)
 ·rw[show ((0:Nat):Int)=0 from rfl]at this;rw[this];have gen:∀ (ys:List aK) (s:List aj),ys.foldl (fun s q=>s++[⟨es[i]'(by omega),q.from_,es[i+1],q.to⟩]) s=s++ax (es[i]'(by omega)) es[i+1] (cS ys):=by
   intro ys
   induction ys with
   |nil=>intro s;simp[ax,cS]
   |cons y ys ih=>intro s;rw[foldl_cons,ih];simp[ax,cS,unq]
  rw[gen]
 ·have w:i64.wrap (((i+1:Nat):Int) - 1)=((i:Nat):Int):=by rw[kI (by omega) (by omega)];rfl
  have ap:bI s.length s.length (sub ([(aj.mk (es[i]'(by omega)) (c[j]).from_ es[i+1] (c[j]).to)]:List aj) 0 1).length 1 32=true:=bB (n:=1) (by omega) (by simp only[maxLen];omega);simp only[qb,bF hj,cond_true,bn hj,bind_some,w,bE,bn hi,bn (show i < es.length by omega),ap,dG,aC];refine⟨?_,by simp;omega⟩;rw[ay (by omega)];rfl
theorem JP {d:Int} {L:List aS} {z:Int}:z∈xsL d L↔∃ s∈L,z=s.x0+d∨z=s.x1+d∨z=s.x0 - d∨z=s.x1 - d:=by
 rw[xsL,XZ,mem_flatMap];simp
theorem JQ (d:Int) (L:List aS):(L.flatMap fun s=>[s.x0+d,s.x1+d,s.x0 - d,s.x1 - d]).length=4*L.length:=by
 induction L with
 |nil=>rfl
 |cons s L ih=>rw[List.flatMap_cons,length_append,ih];simp;omega
theorem aeN (d:Int) (L:List aS):(xsL d L).length<=4*L.length:=by
 have h:=nV (iT ltI (L.flatMap fun s=>[s.x0+d,s.x1+d,s.x0 - d,s.x1 - d]));rw[bJ,JQ]at h;exact h
def yH (d:Int) (L:List aS) (es:List Int) (i:Nat):List aK:=Hr L (es.getD i 0) d
def OU (d:Int) (L:List aS) (es:List Int) (S:List aI) (i:Nat):List aK×Int×Int×List aj:=
 (if i=0 then []else yH d L es (i - 1),(((aP (S.take i)).length - (if i=0 then 0 else (yH d L es (i - 1)).length):Nat):Int),((i+1:Nat):Int),aP (S.take i))
theorem Lx {n:Nat} {d:Int} (hd:0<=d∧d<=1048576) {L:List aS} (hx:∀ s∈L,0<=s.x0∧s.x0 < s.x1∧s.x1<=1048576) {F:List Int} (hF:F.length<=200) (hc:∀ s∈L,Hq F s.column) (hl:L.length<=200) (hn:1000 < n):
 iter (mh n d L ((),xsL d L)) n (([]:List aK),(0:Int),(1:Int),([]:List aj))=some (aP (jy d L)):=by
 have he:=aeN d L;obtain⟨p1,p2⟩:=oC (fun a b=>(⟨a,b,cS (Hr L a d)⟩:aI)) (xsL d L);have hS:(jy d L).length=(xsL d L).length - 1:=p1;have wl:∀ x,(Hr L x d).length<=200:=fun x=>by have:=Rf (ace hc x d);omega
 have xr:∀ z∈xsL d L,-1048576<=z∧z<=3000000:=by
  intro z hz;obtain⟨s,hs,h⟩:=JP.1 hz;have:=hx s hs;omega
 have sc:∀ s∈jy d L,s.column.length<=200:=by
  intro s hs;obtain⟨i,hi,rfl⟩:=mem_iff_getElem.1 hs;have:=p2 i (by omega) hi;unfold jy;rw[this,Hw];exact wl _
 have bl:∀ i,(aP ((jy d L).take i)).length<=800*200:=by
  intro i;have h1:=Gl ((jy d L).take i) 200 fun s hs=>sc s (List.mem_of_mem_take hs);have h2:((jy d L).take i).length<=800:=by rw[length_take];omega
  exact Nat.le_trans h1 (Nat.mul_le_mul_right _ h2)
 by_cases hE:(xsL d L).length=0
 ·
  have s0:jy d L=[]:=List.length_eq_zero_iff.1 (by omega);have x0:xsL d L=[]:=List.length_eq_zero_iff.1 hE;obtain⟨n,rfl⟩:∃ m,n=m+1:=⟨n - 1,by omega⟩;refine aU ?_;rw[s0,x0];simp[mh,aP,sub]
 have main:=gP (step:=mh n d L ((),xsL d L)) (OU d L (xsL d L) (jy d L)) (jy d L).length (aP (jy d L)) (fun i hi=>?_) ?_ n (by omega)
 ·simpa[OU,aP]using main
 ·have hi2:i+1 < (xsL d L).length:=by omega
  have hi1:i < (xsL d L).length:=by omega
  have gD:(xsL d L).getD i 0=(xsL d L)[i]:=by simp[hi1]
  have hs:(jy d L)[i]=⟨(xsL d L)[i],(xsL d L)[i+1],cS (yH d L (xsL d L) i)⟩:=by
   unfold yH;rw[gD];exact p2 i hi2 hi
  have w:i64.wrap (((i+1:Nat):Int) - 1)=((i:Nat):Int):=by rw[kI (by omega) (by omega)];rfl
  have wn:Al n L (xsL d L)[i] d=some (yH d L (xsL d L) i):=by
   unfold yH;rw[gD];exact V8 (F:=F) (by omega) (xr _ (getElem_mem hi1)) hd L hc hn (by omega)
  have wi:(yH d L (xsL d L) i).length<=200:=wl _;have tk:(jy d L).take (i+1)=(jy d L).take i++[(⟨(xsL d L)[i],(xsL d L)[i+1],cS (yH d L (xsL d L) i)⟩:aI)]:=by rw[take_succ_eq_append_getElem hi,hs]
  have bi:=bl i;have w2:i64.wrap (((i+1:Nat):Int)+1)=((i+1+1:Nat):Int):=ay (by omega);have d1:decide (((i+1:Nat):Int) < ((((xsL d L)).length:Nat):Int))=true:=bF hi2;have s4:=Lv (n:=n) (xsL d L) i hi2 (by omega) (aP ((jy d L).take i)) (yH d L (xsL d L) i) (by omega) (by omega);unfold OU;simp only[mh,bE,d1,cond_true,w,bn hi1,bind_some,wn,w2,aC,s4];generalize hW:yH d L (xsL d L) i=W at*;by_cases h0:i=0
  ·have g1:decide (((i+1:Nat):Int)>1)=false:=(by rw[decide_eq_false_iff_not];omega);have tz:List.take i (jy d L)=[]:=(by rw[h0];rfl);have wz:aP (List.take i (jy d L))=[]:=(by rw[tz];rfl);have w1:aP (List.take (i+1) (jy d L))=ax (xsL d L)[i] (xsL d L)[i+1] (cS W):=(by rw[tk,tz];rfl);simp only[g1,cond_false,bind_some,wz,nil_append,w1,aC,cond_true,hW,Nat.add_sub_cancel,Nat.add_one_ne_zero,if_false,aQ,Hw,Nat.sub_self,length_nil]
  ·have g1:decide (((i+1:Nat):Int)>1)=true:=(by simp;omega);simp only[g1,cond_true,if_neg h0,Nat.add_one_ne_zero,if_false,Nat.add_sub_cancel,hW];have hi0:i - 1 < (jy d L).length:=(by omega);have hq:=p2 (i - 1) (by omega) hi0;have gD0:(xsL d L).getD (i - 1) 0=(xsL d L)[i - 1]:=(by simp[show i - 1 < (xsL d L).length by omega]);have e0:(jy d L).take i=(jy d L).take (i - 1)++[(⟨(xsL d L)[i - 1],(xsL d L)[i - 1+1],cS (yH d L (xsL d L) (i - 1))⟩:aI)]:=by
    have:=take_succ_eq_append_getElem hi0;rw[show i - 1+1=i by omega]at this;rw[this];congr 2;unfold yH;rw[gD0];exact hq
   have wm:(yH d L (xsL d L) (i - 1)).length<=200:=wl _;generalize yH d L (xsL d L) (i - 1)=V at*;generalize (jy d L).take (i - 1)=S at e0;have tk2:(jy d L).take (i+1)=S++[(⟨(xsL d L)[i - 1],(xsL d L)[i - 1+1],cS V⟩:aI),(⟨(xsL d L)[i],(xsL d L)[i+1],cS W⟩:aI)]:=(by rw[tk,e0,append_assoc];rfl);rw[JO (by omega) (by omega)];simp only[bind_some];by_cases hWV:W=V
   ·subst hWV;obtain⟨pre,x',w3,w4⟩:=Nl ⟨(xsL d L)[i],(xsL d L)[i+1],cS W⟩ ⟨(xsL d L)[i - 1],(xsL d L)[i - 1+1],cS W⟩ rfl S;have ww:aP ((jy d L).take i)=pre++ax x' (xsL d L)[i - 1+1] (cS W):=(by rw[e0,w3]);have ww2:aP ((jy d L).take (i+1))=pre++ax x' (xsL d L)[i+1] (cS W):=(by rw[tk2,w4]);have lp:(aP ((jy d L).take i)).length=pre.length+W.length:=(by rw[ww,length_append,aQ,Hw]);have lp2:(aP ((jy d L).take (i+1))).length=pre.length+W.length:=(by rw[ww2,length_append,aQ,Hw]);cases hz:decide (((W.length:Nat):Int)>0)with
    |true=>
     have s3:=Lu (n:=n) (xsL d L) i hi2 (by omega) pre x' (xsL d L)[i - 1+1] (cS W) (by rw[Hw];omega) (by rw[Hw];omega);have pl:(aP ((jy d L).take i)).length - W.length=pre.length:=(by omega);have pl2:(aP ((jy d L).take (i+1))).length - W.length=pre.length:=(by omega);simp only[cond_true,bind_some,decide_true,pl,pl2];rw[ww,s3,ww2];simp only[bind_some];have le:eqL (pre++ax x' (xsL d L)[i - 1+1] (cS W)).length (pre++ax x' (xsL d L)[i+1] (cS W)).length=true:=(by apply adr;rw[length_append,length_append,aQ,aQ]);simp only[le,cond_true,bind_some,aC]
    |false=>
     have hw0:W=[]:=List.length_eq_zero_iff.1 (by rw[decide_eq_false_iff_not]at hz;omega);subst hw0;have r0:∀ a b,ax a b (cS [])=[]:=fun _ _=>rfl;simp only[cond_false,bind_some,r0,append_nil,aC,cond_true]at*;rw[ww2,<- ww];simp
   ·have dn:decide (W=V)=false:=(by simpa using hWV);have wne:(⟨(xsL d L)[i],(xsL d L)[i+1],cS W⟩:aI).column≠(⟨(xsL d L)[i - 1],(xsL d L)[i - 1+1],cS V⟩:aI).column:=fun e=>hWV (afH e);have ww2:aP ((jy d L).take (i+1))=aP ((jy d L).take i)++ax (xsL d L)[i] (xsL d L)[i+1] (cS W):=by
     rw[tk2,e0];exact Rc _ _ wne S
    have e1:(bif decide (((W.length:Nat):Int)>0)then some (decide (W=V))else some false:Option Bool)=some false:=(by rw[dn];cases decide (((W.length:Nat):Int)>0)<;>rfl);rw[e1];simp only[bind_some,cond_false,aC,cond_true,ww2,length_append,aQ,Hw,Nat.add_sub_cancel]
 ·have d1:decide ((((jy d L).length+1:Nat):Int) < ((((xsL d L)).length:Nat):Int))=false:=by rw[decide_eq_false_iff_not];omega
  unfold OU;simp only[mh,bE,d1,cond_false,aC,cond_true,List.take_length]
theorem JS {n:Nat} {a:List aj} {d:Int} (ha:a.length<=900) (hn:10000<=n):vR n a d=some (kT a d):=by
 unfold vR QX;rw[lN (by omega) (by omega) (by omega)];simp only[bind_some,Lc,kT];by_cases hv:(decide (0<=d)&&(decide (d<=1048576)&&rightL a))=true
 ·have hv':(decide (d>=0)&&(decide (d<=1048576)&&rightL a))=true:=hv;rw[hv'];simp only[hv,if_true,Bool.not_true,cond_false];simp only[and_eq_true,decide_eq_true_eq]at hv;obtain⟨h0,h1,hr⟩:=hv;obtain⟨rok,hro,_⟩:=Hu hr;have hsl:Ef a d=some (dR d a):=by
   unfold Ef;rw[if_pos (by omega)];congr 1;have:=Rj (d:=d) ⟨h0,h1⟩ (Au (aJ a)) rok.runs (fun s hs=>(rok.col s hs).2) [] (by simp);rw[hro]at this;rw[this];rfl
  have hx:∀ s∈dR d a,0<=s.x0∧s.x0 < s.x1∧s.x1<=1048576:=by
   intro s hs;obtain⟨t,ht,rfl⟩:=mem_map.1 hs;exact rok.xs t ht
  have hl:(dR d a).length<=200:=by unfold dR;rw[length_map];exact rok.len
  have s1:=Ls (n:=n) (d:=d) ⟨h0,h1⟩ hx (by omega) (by omega);have l4:=JQ d (dR d a);have s2:=Lx (n:=n) (d:=d) ⟨h0,h1⟩ hx (F:=((Au (aJ a)).flatMap fun s=>s.column.map (·.from_)).map (· +d)) (by rw[length_map];exact rok.froms) (aak rok h0) hl (by omega);simp only[hsl,bind_some,bE,aC,cond_true,length_nil,s1];rw[lK (by omega) (by omega)];simp only[bind_some,bJ,aC,cond_true];rw[kS (by rw[bJ];omega) (by rw[bJ];omega)];simp only[bind_some,bE,aC,cond_true];have hE:dP (iT ltI ((dR d a).flatMap fun s=>[s.x0+d,s.x1+d,s.x0 - d,s.x1 - d]))=xsL d (dR d a):=rfl;rw[hE,s2];simp only[bind_some];by_cases h200:(aP (jy d (dR d a))).length>200
  ·have:decide ((((aP (jy d (dR d a))).length:Nat):Int)>200)=true:=(by simp;omega);rw[this,if_pos h200];rfl
  ·have:decide ((((aP (jy d (dR d a))).length:Nat):Int)>200)=false:=(by simp;omega);rw[this,if_neg h200];rfl
 ·have hv':(decide (d>=0)&&(decide (d<=1048576)&&rightL a))=false:=by simpa using hv
  rw[hv'];simp only[hv,if_false,Bool.not_false,cond_true];rfl
theorem aeO {a:List aj} {d:Int} (h0:0<=d) (hr:rightL a=true):oD (jy d (dR d a))∧∀ x,Can (d9 (jy d (dR d a)) x)∧∀ y,inS (d9 (jy d (dR d a)) x) y=true↔∀ u v,x - d<=u->u<=x+d->y - d<=v->v<=y+d->aV a u v=true:=by
 obtain⟨rok,hro,hcol⟩:=Hu hr;have hv:=(dU hr).1;have hS:=adK rok h0;have xs:=Na ((dR d a).flatMap fun s=>[s.x0+d,s.x1+d,s.x0 - d,s.x1 - d]);have sat:∀ z,jv (dR d a) z=cS (Aw d (bG a z)):=fun z=>by unfold dR;rw[Np,hcol]
 have win:∀ x,Can (cS (Hr (dR d a) x d))∧∀ y,inS (cS (Hr (dR d a) x d)) y=true↔∀ z,x - d<=z->z<=x+d->inS (jv (dR d a) z) y=true:=fun x=>acd hS h0;refine⟨BX _ _ xs,fun x=>?_⟩;have e:d9 (jy d (dR d a)) x=cS (Hr (dR d a) x d):=by
  have slabIn:∀ z y,inS (jv (dR d a) z) y=true->∃ s∈dR d a,s.x0<=z∧z < s.x1:=by
   intro z y hz;by_cases hx:∃ s∈dR d a,s.x0<=z∧z < s.x1
   ·exact hx
   ·rw[Er (fun s hs=>by
     by_cases h1:z < s.x0
     ·exact .inl h1
     ·right;by_cases h2:z < s.x1
      ·exact absurd ⟨s,hs,by omega,h2⟩ hx
      ·omega)]at hz
    simp[inS]at hz
  have slabEq:∀ s∈dR d a,∀ z,s.x0<=z->z < s.x1->jv (dR d a) z=jv (dR d a) s.x0:=by
   intro s hs z h1 h2;rw[sat,sat];obtain⟨t,ht,rfl⟩:=mem_map.1 hs;obtain⟨m1,m2⟩:=tu rok.runs t ht;rw[<- hcol,<- hcol,m2 z h1 h2];exact (congrArg (fun c=>cS (Aw d c)) (m2 t.x0 (Int.le_refl _) m1)).symm
  refine Nj (fun x=>cS (Hr (dR d a) x d)) (xsL d (dR d a)) xs x (fun e he hex hc=>?_) (fun hall=>?_) (fun hall=>?_)
  ·refine ow (win e).1 (win x).1 fun y=>?_;rw[Bool.eq_iff_iff,(win e).2,(win x).2];constructor
   ·intro h z hz1 hz2;by_cases hz:z<=e+d
    ·exact h z (by omega) hz
    ·have hE:=h (e+d) (by omega) (Int.le_refl _);obtain⟨s,hs,g1,g2⟩:=slabIn _ _ hE;have:=hc (s.x1 - d) (JP.2 ⟨s,hs,.inr (.inr (.inr rfl))⟩);rw[slabEq s hs z (by omega) (by omega),<- slabEq s hs (e+d) g1 g2];exact hE
   ·intro h z hz1 hz2;by_cases hz:x - d<=z
    ·exact h z hz (by omega)
    ·have hE:=h (x - d) (Int.le_refl _) (by omega);obtain⟨s,hs,g1,g2⟩:=slabIn _ _ hE;have:=hc (s.x0+d) (JP.2 ⟨s,hs,.inl rfl⟩);rw[slabEq s hs z (by omega) (by omega),<- slabEq s hs (x - d) g1 g2];exact hE
  ·refine ow (win x).1 yF fun y=>?_;rw[Bool.eq_iff_iff,(win x).2];constructor
   ·intro h;obtain⟨s,hs,g1,g2⟩:=slabIn _ _ (h (x - d) (Int.le_refl _) (by omega));have:=hall (s.x1+d) (JP.2 ⟨s,hs,.inr (.inl rfl)⟩);omega
   ·intro h;simp[inS]at h
  ·refine ow (win x).1 yF fun y=>?_;rw[Bool.eq_iff_iff,(win x).2];constructor
   ·intro h;obtain⟨s,hs,g1,g2⟩:=slabIn _ _ (h (x+d) (by omega) (Int.le_refl _));have:=hall (s.x0 - d) (JP.2 ⟨s,hs,.inr (.inr (.inl rfl))⟩);omega
   ·intro h;simp[inS]at h
 rw[e];refine⟨(win x).1,fun y=>?_⟩;rw[(win x).2];constructor
 ·intro h u v h1 h2 h3 h4;have:=h u h1 h2;rw[sat,abe h0 (je hv u).1]at this;rw[<- (je hv u).2];exact this v h3 h4
 ·intro h z h1 h2;rw[sat,abe h0 (je hv z).1];intro v h3 h4;rw[(je hv z).2];exact h z v h1 h2 h3 h4
theorem Nq {a r:List aj} {d:Int} (h:kT a d=(r,0)):rightL a=true∧0<=d∧rightL r=true∧∀ x y,aV r x y=true↔∀ u v,x - d<=u->u<=x+d->y - d<=v->v<=y+d->aV a u v=true:=by
 unfold kT at h;by_cases hv:(decide (0<=d)&&(decide (d<=1048576)&&rightL a))=true
 ·rw[if_pos hv]at h;simp only[and_eq_true,decide_eq_true_eq]at hv;obtain⟨h0,h1,hr⟩:=hv;by_cases h200:(aP (jy d (dR d a))).length>200
  ·rw[if_pos h200]at h;simp at h
  ·rw[if_neg h200]at h;simp only[Prod.mk.injEq,and_true]at h;subst h;obtain⟨q1,q2⟩:=aeO h0 hr;have hv:=(dU hr).1;refine⟨hr,h0,JL q1 (fun x=>(q2 x).1) (fun x y hxy=>?_) (by omega),fun x y=>?_⟩
   ·have:=((q2 x).2 y).1 hxy x y (by omega) (by omega) (by omega) (by omega);exact vE hv this
   ·rw[JI q1];exact (q2 x).2 y
 ·rw[if_neg hv]at h;simp at h
theorem aal (p:Nat->Bool) (N:Nat):(oN p (List.range N)=none->(List.range N).any p=false)∧(∀ i,oN p (List.range N)=some i->(List.range N).any p=true):=by
 refine⟨fun h=>?_,fun i h=>?_⟩
 ·rw[<- pI,h];rfl
 ·rw[<- pI,h];rfl
theorem Es {W O:Type} {step:Int->Option (Int ⊕ (W ⊕ O))} (N:Nat) (p:Nat->Bool) (w:W) (o:O)
 (h:∀ i,i < N->step (i:Int)=some (bif p i then .inr (.inr o)else .inl ((i+1:Nat):Int)))
 (hend:step (N:Int)=some (.inr (.inl w))) (n:Nat) (hn:N < n):iter step n (0:Int)=some (bif (List.range N).any p then .inr o else .inl w):=by
 have:=qP (l:=List.range N) (step:=step) (fun i=>((i:Nat):Int)) p w (fun _=>o) (fun i hi=>by
  rw[List.length_range]at hi;rw[List.getElem_range];exact h i hi) (by rw[List.length_range];exact hend) n (by rw[List.length_range];exact hn)
 rw[show ((0:Nat):Int)=0 from rfl]at this;rw[this];obtain⟨r1,r2⟩:=aal p N;cases hf:oN p (List.range N)with
 |none=>rw[r1 hf];rfl
 |some i=>rw[r2 i hf];rfl
theorem Et {n:Nat} {p:List bK} (hl:p.length<=1000) (hn:2000<=n):iter (lZ n p (dN p)) n (0:Int)=some (bif (List.range p.length).any (adF p)then .inr false else .inl ()):=by
 refine Es p.length (adF p) () false (fun i hi=>?_) ?_ n (by omega)
 ·have nz:(((p.length:Nat):Int) != 0)=true:=by simp;intro h;rw[h]at hi;simp at hi
  have md:(i+1)%p.length < p.length:=Nat.mod_lt _ (by omega);have w:i64.wrap ((i:Int)+1)=((i+1:Nat):Int):=ay (by omega);have g1:at? (dN p) (((0:Nat):Int)+((i:Nat):Int))=some (fM p i):=by rw[bZ (by rw[bS];exact hi),wT]
  have g2:at? (dN p) (((0:Nat):Int)+(((i+1)%p.length:Nat):Int))=some (fM p ((i+1)%p.length)):=by rw[bZ (by rw[bS];exact md),wT]
  obtain⟨r,hr1,hr2⟩:=Hf (n:=n) (ptA p 0) (ptA p i) (by omega);have g3:at? p 0=some (ptA p 0):=by rw[aeC (by omega),<- OM]
  have g4:at? p ((i:Nat):Int)=some (ptA p i):=by rw[bn hi,<- OM]
  have dz:decide (((i:Nat):Int)>0)=decide (0 < i):=by rw[Bool.eq_iff_iff];simp
  have pt:bK.mk (fM p i).a_x (fM p i).a_y=ptA p i:=rfl;simp only[lZ,bS,bF hi,cond_true,bq hi,g1,g2,bind_some,nz,w,Uy,bq md,pt,JG,jP,kW,g3,g4,hr1,hr2,dz,Option.map_some];unfold adF;generalize OO (ptA p i)=b1;generalize (((fM p i).a_x==(fM p i).b_x)==((fM p i).a_y==(fM p i).b_y))=b2;generalize (upP (fM p i)==upP (fM p ((i+1)%p.length)))=b3;generalize decide (0 < i)=b4;generalize OQ (ptA p 0) (ptA p i)=b5;cases b1<;>cases b2<;>cases b3<;>cases b4<;>cases b5<;>rfl
 ·simp only[lZ,bS,nM,cond_false]
theorem Eu {n:Nat} {p:List bK} (hl:p.length<=1000) (hn:2000<=n) {i:Nat} (hi:i < p.length):
 iter (fC (dN p) ((i:Nat):Int)) n (((i+2:Nat):Int))=some (bif (List.range p.length).any fun k=>decide (i+2<=k)&&NQ p i k then .inr (.inr (.inr false))else .inl ()):=by
 have st:∀ k,k < p.length->fC (dN p) ((i:Nat):Int) ((k:Nat):Int)=some (bif NQ p i k then .inr (.inr (.inr (.inr false)))else .inl ((k+1:Nat):Int)):=by
  intro k hk;have g1:at? (dN p) (((0:Nat):Int)+((i:Nat):Int))=some (fM p i):=by rw[bZ (by rw[bS];exact hi),wT]
  have g2:at? (dN p) (((0:Nat):Int)+((k:Nat):Int))=some (fM p k):=by rw[bZ (by rw[bS];exact hk),wT]
  have w:i64.wrap (i64.wrap (((i:Nat):Int)+((p.length:Nat):Int)) - ((k:Nat):Int))=((i+p.length - k:Nat):Int):=by rw[aZ (x:=((i:Nat):Int)+((p.length:Nat):Int)) (by omega) (by omega),aZ (by omega) (by omega)];omega
  have dz:decide (((i+p.length - k:Nat):Int)>1)=decide (i+p.length - k>1):=by rw[Bool.eq_iff_iff,decide_eq_true_eq,decide_eq_true_eq];omega
  simp only[fC,bS,bF hk,cond_true,bq hi,bq hk,g1,g2,bind_some,w,dz,Ar,kW,Option.map_some,ay (show k < 9223372036854775807 by omega)];unfold NQ;cases decide (i+p.length - k>1)<;>cases V5 (fM p i) (fM p k)<;>rfl
 have main:∀ m k,k+m=p.length->∀ f,m < f->iter (fC (dN p) ((i:Nat):Int)) f ((k:Nat):Int)=some (bif (List.range p.length).any fun j=>decide (k<=j)&&NQ p i j then .inr (.inr (.inr false))else .inl ()):=by
  intro m
  induction m with
  |zero=>
   intro k hk f hf;obtain⟨f,rfl⟩:∃ g,f=g+1:=⟨f - 1,by omega⟩;have:k=p.length:=(by omega);subst this;have e:((List.range p.length).any fun j=>decide (p.length<=j)&&NQ p i j)=false:=by
    rw[Bool.eq_false_iff];intro h;rw[any_eq_true]at h;obtain⟨j,h1,h2⟩:=h;rw[List.mem_range]at h1;simp only[and_eq_true,decide_eq_true_eq]at h2;omega
   rw[e];refine aU ?_;simp only[fC,bS,nM,cond_false]
  |succ m ih=>
   intro k hk f hf;obtain⟨f,rfl⟩:∃ g,f=g+1:=⟨f - 1,by omega⟩;have hkl:k < p.length:=(by omega);have h1:=st k hkl;cases hb:NQ p i k with
   |true=>
    rw[hb]at h1;have e:((List.range p.length).any fun j=>decide (k<=j)&&NQ p i j)=true:=by
     rw[any_eq_true];exact⟨k,List.mem_range.2 hkl,by simp[hb]⟩
    rw[e];exact aU h1
   |false=>
    rw[hb]at h1;rw[bT h1,ih (k+1) (by omega) f (by omega)];congr 2;rw[Bool.eq_iff_iff,any_eq_true,any_eq_true];constructor
    ·rintro⟨j,j1,j2⟩;simp only[and_eq_true,decide_eq_true_eq]at j2;exact⟨j,j1,by simp only[and_eq_true,decide_eq_true_eq];exact⟨by omega,j2.2⟩⟩
    ·rintro⟨j,j1,j2⟩;simp only[and_eq_true,decide_eq_true_eq]at j2;refine⟨j,j1,?_⟩;simp only[and_eq_true,decide_eq_true_eq];refine⟨?_,j2.2⟩;rcases Nat.lt_or_ge k j with h |h
     ·omega
     ·have:j=k:=(by omega);subst this;rw[hb]at j2;simp at j2
 by_cases h2:i+2<=p.length
 ·exact main (p.length - (i+2)) (i+2) (by omega) n (by omega)
 ·obtain⟨n,rfl⟩:∃ g,n=g+1:=⟨n - 1,by omega⟩;have e:((List.range p.length).any fun j=>decide (i+2<=j)&&NQ p i j)=false:=by
   rw[Bool.eq_false_iff];intro h;rw[any_eq_true]at h;obtain⟨j,h1,h2⟩:=h;rw[List.mem_range]at h1;simp only[and_eq_true,decide_eq_true_eq]at h2;omega
  rw[e];have d:decide (((i+2:Nat):Int) < ((p.length:Nat):Int))=false:=by rw[decide_eq_false_iff_not];omega
  refine aU ?_;simp only[fC,bS,d,cond_false]
theorem Ew {n:Nat} {p:List bK} (hl:p.length<=1000) (hn:2000<=n):iter (l5 n (dN p)) n (0:Int)=some (bif (List.range p.length).any fun i=>(List.range p.length).any fun k=>decide (i+2<=k)&&NQ p i k then .inr false else .inl ()):=by
 refine Es p.length _ () false (fun i hi=>?_) ?_ n (by omega)
 ·have w2:i64.wrap ((i:Int)+2)=((i+2:Nat):Int):=by rw[aZ (by omega) (by omega)];omega
  simp only[l5,bS,bF hi,cond_true,w2,Eu hl hn hi,ay (show i < 9223372036854775807 by omega)];cases (List.range p.length).any fun k=>decide (i+2<=k)&&NQ p i k<;>rfl
 ·simp only[l5,bS,nM,cond_false]
theorem LA {n:Nat} (p:List bK) (hn:2000<=n):rR n p=some (Lg p):=by
 unfold rR Lg;by_cases h4:p.length < 4
 ·have d1:decide (((p.length:Nat):Int) < 4)=true:=by simp;omega
  have d2:decide (4<=p.length)=false:=by simp;omega
  rw[d1,d2];rfl
 ·have d1:decide (((p.length:Nat):Int) < 4)=false:=by simp;omega
  have d2:decide (4<=p.length)=true:=by simp;omega
  by_cases h60:p.length>60
  ·have d3:decide (((p.length:Nat):Int)>60)=true:=(by simp;omega);have d4:decide (p.length<=60)=false:=(by simp;omega);rw[d1,d2,d3,d4];rfl
  ·have d3:decide (((p.length:Nat):Int)>60)=false:=(by simp;omega);have d4:decide (p.length<=60)=true:=(by simp;omega);have g:at? (dN p) (((0:Nat):Int)+0)=some (fM p 0):=by
    have:=bZ (l:=dN p) (i:=0) (by rw[bS];omega);rw[wT]at this;exact this
   have i0:inb 0 (dN p).length=true:=by
    have:=bq (i:=0) (n:=(dN p).length) (by rw[bS];omega);simpa using this
   rw[d1,d2,d3,d4];simp only[cond_false,bind_some,yG (n:=n) (p:=p) (by omega) (by omega),Et (n:=n) (p:=p) (by omega) hn,Bool.true_and];cases (List.range p.length).any (adF p)with
   |true=>rfl
   |false=>
    simp only[cond_false,gW,Ew (n:=n) (p:=p) (by omega) hn];cases (List.range p.length).any fun i=>(List.range p.length).any fun k=>decide (i+2<=k)&&NQ p i k with
    |true=>rfl
    |false=>
     simp only[cond_false,gW,i0,cond_true,g,bind_some,jP];rfl
def zf (p:List bK) (x:Int):List Int:=((dN p).filter fun s=>!upP s&&(decide (min s.a_x s.b_x<=x)&&decide (x < max s.a_x s.b_x))).map (·.a_y)
def Az (x0 x1:Int):List Int->List aj
 |a::b::l=>⟨x0,a,x1,b⟩::Az x0 x1 l
 |_=>[]
def xsP (p:List bK):List Int:=abV (p.map (·.x))
def Rk (p:List bK):List aj:=(mY (fun a b=>Az a b (iT ltI (zf p a))) (xsP p)).flatten
def vF (p:List bK):List aj×Int:=if Lg p=true then (if (Rk p).length>200 then ([],6)else (Rk p,0))else ([],10)
theorem aam {p:List bK} (h:Lg p=true):4<=p.length∧p.length<=60:=by
 unfold Lg at h;simp only[and_eq_true,decide_eq_true_eq]at h;exact⟨h.1,h.2.1⟩
theorem C9 {n:Nat} {p:List bK} (hl:p.length<=1000) (hn:2000<=n):iter (iX p) n ((0:Int),([]:List Int))=some (p.map (·.x)):=by
 have:=bC (l:=p) (step:=iX p) (fun i (s:List Int)=>((i:Int),s)) (fun r s=>s++[r.x]) (fun s=>s) (fun i s=>s.length<=i)
  (fun i hi s hs=>?_) (fun s hs=>by simp[iX]) n (by omega) [] (Nat.le_refl _)
 ·rw[show ((0:Nat):Int)=0 from rfl]at this;rw[this];have gen:∀ (ys:List bK) (s:List Int),ys.foldl (fun s r=>s++[r.x]) s=s++ys.map (·.x):=by
   intro ys
   induction ys with
   |nil=>intro s;simp
   |cons y ys ih=>intro s;rw[foldl_cons,ih];simp
  congr 1;simpa using gen p []
 ·have ap:bI s.length s.length (sub ([(p[i]).x]:List Int) 0 1).length 1 8=true:=bB (n:=1) (by omega) (by simp only[maxLen];omega);simp only[iX,bF hi,cond_true,bn hi,bind_some,ap,dG,aC];refine⟨?_,by simp;omega⟩;rw[ay (by omega)];rfl
theorem Da {n:Nat} {p:List bK} (hl:p.length<=1000) (hn:2000<=n) (es:List Int) (i:Nat) (hi:i < es.length):iter (iY ((),es) (dN p) ((i:Nat):Int)) n ((0:Int),([]:List Int))=some (zf p es[i]):=by
 have:=bC (l:=dN p) (step:=iY ((),es) (dN p) ((i:Nat):Int)) (fun i (s:List Int)=>((i:Int),s)) (fun r s=>bif !upP r&&(decide (min r.a_x r.b_x<=es[i])&&decide (es[i] < max r.a_x r.b_x))then s++[r.a_y]else s) (fun s=>s) (fun i s=>s.length<=i)
  (fun j hj s hs=>?_) (fun s hs=>by simp[iY]) n (by rw[bS];omega) [] (Nat.le_refl _)
 ·rw[show ((0:Nat):Int)=0 from rfl]at this;rw[this];have gen:∀ (ys:List fQ) (s:List Int),ys.foldl (fun s r=>bif !upP r&&(decide (min r.a_x r.b_x<=es[i])&&decide (es[i] < max r.a_x r.b_x))then s++[r.a_y]else s) s=s++(ys.filter fun s=>!upP s&&(decide (min s.a_x s.b_x<=es[i])&&decide (es[i] < max s.a_x s.b_x))).map (·.a_y):=by
   intro ys
   induction ys with
   |nil=>intro s;simp
   |cons y ys ih=>
    intro s;rw[foldl_cons,ih,List.filter_cons];cases !upP y&&(decide (min y.a_x y.b_x<=es[i])&&decide (es[i] < max y.a_x y.b_x))<;>simp
  congr 1;exact gen (dN p) []
 ·rw[bS]at hj;have g:at? (dN p) (((0:Nat):Int)+((j:Nat):Int))=some (dN p)[j]:=bZ (by rw[bS];exact hj);have ap:bI s.length s.length (sub ([((dN p)[j]'(by rw[bS];exact hj)).a_y]:List Int) 0 1).length 1 8=true:=bB (n:=1) (by omega) (by simp only[maxLen];omega);generalize hr:(dN p)[j]'(by rw[bS];exact hj)=r at*;simp only[iY,bS,bF hj,cond_true,bq hj,g,bind_some,jP,bq hi,bZ hi,kW,ap,dG,aC,ay (show j < 9223372036854775807 by omega)];cases upP r<;>cases decide (min r.a_x r.b_x<=es[i])<;>cases decide (es[i] < max r.a_x r.b_x)<;>refine⟨rfl,?_⟩<;>simp<;>omega
theorem UG (x0 x1:Int):∀ l:List Int,(Az x0 x1 l).length<=l.length
 |[]=>by simp[Az]
 |[_]=>by simp[Az]
 |a::b::l=>by have:=UG x0 x1 l;simp only[Az,length_cons];omega
theorem Db {n:Nat} (es:List Int) (i:Nat) (hi:i+1 < es.length) (he:es.length<=10000) (w2 r8:List Int) (hw:w2.length=r8.length) (hr:r8.length<=1000) (out:List aj) (ho:out.length<=10000000) (hn:2000<=n):
 iter (fT ((),es) ((i:Nat):Int) w2 r8) n ((0:Int),out)=some (out++Az (es[i]'(by omega)) es[i+1] r8):=by
 have main:∀ (m k:Nat) (out:List aj),k+m=r8.length->out.length<=10000000+k->∀ f,m < f->iter (fT ((),es) ((i:Nat):Int) w2 r8) f (((k:Nat):Int),out)=some (out++Az (es[i]'(by omega)) es[i+1] (r8.drop k)):=by
  intro m
  induction m using Nat.strongRecOn with
  |ind m ih=>
   intro k out hk hko f hf;obtain⟨f,rfl⟩:∃ g,f=g+1:=⟨f - 1,by omega⟩;have w1:i64.wrap ((k:Int)+1)=((k+1:Nat):Int):=ay (by omega);have w3:i64.wrap ((k:Int)+2)=((k+2:Nat):Int):=(by rw[aZ (by omega) (by omega)];omega);have w4:i64.wrap ((i:Int)+1)=((i+1:Nat):Int):=ay (by omega);by_cases h2:k+1 < r8.length
   ·have d:decide (((k+1:Nat):Int) < ((w2.length:Nat):Int))=true:=(by rw[hw];exact bF h2);have ap:bI out.length out.length (sub ([(aj.mk (es[i]'(by omega)) (r8[k]'(by omega)) es[i+1] r8[k+1])]:List aj) 0 1).length 1 32=true:=bB (n:=1) (by omega) (by simp only[maxLen];omega);have st:fT ((),es) ((i:Nat):Int) w2 r8 (((k:Nat):Int),out)=some (.inl (((k+2:Nat):Int),out++[aj.mk (es[i]'(by omega)) (r8[k]'(by omega)) es[i+1] r8[k+1]])):=by
     simp only[fT,w1,w3,w4,d,cond_true,bq (show i < es.length by omega),bZ (show i < es.length by omega),bind_some,bq (show k < w2.length by omega),bZ (show k < r8.length by omega),bq hi,bZ hi,bq (show k+1 < w2.length by omega),bZ h2,ap,dG,aC];rfl
    have dr:r8.drop k=r8[k]::r8[k+1]::r8.drop (k+2):=(by rw[drop_eq_getElem_cons (by omega),drop_eq_getElem_cons h2]);rw[bT st,ih (m - 2) (by omega) (k+2) _ (by omega) (by rw[length_append,List.length_singleton];omega) f (by omega),dr];simp[Az]
   ·have d:decide (((k+1:Nat):Int) < ((w2.length:Nat):Int))=false:=(by rw[hw,decide_eq_false_iff_not];omega);have e:Az (es[i]'(by omega)) es[i+1] (r8.drop k)=[]:=by
     have hl:(r8.drop k).length<=1:=by rw[length_drop];omega
     match r8.drop k,hl with
     |[],_=>rfl
     |[_],_=>rfl
     |_::_::_,h=>simp at h
    rw[e,append_nil];refine aU ?_;simp only[fT,w1,d,cond_false,aC,cond_true]
 have:=main r8.length 0 out (by omega) (by omega) n (by omega);rw[show ((0:Nat):Int)=0 from rfl,List.drop_zero]at this;exact this
theorem aeP (p:List bK):(xsP p).length<=p.length:=by
 have h:=nV (iT ltI (p.map (·.x)));rw[bJ,length_map]at h;exact h
theorem Rl (p:List bK) (x:Int):(zf p x).length<=p.length:=by
 unfold zf;rw[length_map,<- bS p];exact length_filter_le _ _
theorem wV {α:Type} (b:Nat):∀ l:List (List α),(∀ x∈l,x.length<=b)->l.flatten.length<=l.length*b
 |[],_=>by simp
 |x::l,h=>by
  have h1:=wV b l fun y hy=>h y (mem_cons_of_mem _ hy);have h2:=h x mem_cons_self;rw[List.flatten_cons,length_append,length_cons,Nat.add_mul];omega
theorem Dc {n:Nat} {p:List bK} (hl:p.length<=1000) (hn:2000<=n):
 iter (iZ n ((),xsP p) (dN p)) n ((0:Int),([]:List aj))=some (Rk p):=by
 have hx:=aeP p;obtain⟨p1,p2⟩:=oC (fun a b=>Az a b (iT ltI (zf p a))) (xsP p)
 let C:=mY (fun a b=>Az a b (iT ltI (zf p a))) (xsP p)
 have hC:C.length=(xsP p).length - 1:=p1;have cl:∀ c∈C,c.length<=1000:=by
  intro c hc;obtain⟨i,hi,rfl⟩:=mem_iff_getElem.1 hc;have:=p2 i (by omega) hi;show (C[i]).length<=1000;rw[show C[i]=_ from this];have h1:=UG (xsP p)[i] (xsP p)[i+1] (iT ltI (zf p (xsP p)[i]));rw[bJ]at h1;have h2:=Rl p (xsP p)[i];omega
 have bl:∀ i,((C.take i).flatten).length<=1000*1000:=by
  intro i;have h1:=wV 1000 (C.take i) fun x hx=>cl x (List.mem_of_mem_take hx);have h2:(C.take i).length<=1000:=by rw[length_take];omega
  exact Nat.le_trans h1 (Nat.mul_le_mul_right _ h2)
 have main:=gP (step:=iZ n ((),xsP p) (dN p)) (fun i=>(((i:Nat):Int),(C.take i).flatten)) C.length (Rk p) (fun i hi=>?_) ?_ n (by omega)
 ·simpa using main
 ·have hi2:i+1 < (xsP p).length:=by omega
  have hw:i64.wrap ((((xsP p).length:Nat):Int) - 1)=((C.length:Nat):Int):=by rw[aZ (by omega) (by omega)];omega
  have bi:=bl i;have cr:=Rl p (xsP p)[i];have e:C.take (i+1)=C.take i++[Az (xsP p)[i] (xsP p)[i+1] (iT ltI (zf p (xsP p)[i]))]:=by
   rw[take_succ_eq_append_getElem hi];congr 2;exact p2 i hi2 hi
  simp only[iZ,hw,bF hi,cond_true,length_nil,aC,Da hl hn (xsP p) i (by omega),bind_some];rw[lK (by omega) (by omega)];simp only[bind_some];rw[Db (xsP p) i hi2 (by omega) (zf p (xsP p)[i]) (iT ltI (zf p (xsP p)[i])) (by rw[bJ]) (by rw[bJ];omega) _ (by omega) hn];simp only[bind_some,aC,cond_true,e,List.flatten_append,List.flatten_cons,List.flatten_nil,append_nil,ay (show i < 9223372036854775807 by omega)]
 ·have hw:i64.wrap ((((xsP p).length:Nat):Int) - 1)=(((xsP p).length:Nat):Int) - 1:=aZ (by omega) (by omega);have d:decide (((C.length:Nat):Int) < (((xsP p).length:Nat):Int) - 1)=false:=by rw[decide_eq_false_iff_not];omega
  simp only[iZ,hw,d,cond_false,aC,cond_true,List.take_length];rfl
theorem JU {n:Nat} (p:List bK) (hn:2000<=n):pW n p=some (vF p):=by
 unfold pW vF;rw[LA p hn];simp only[bind_some];cases hr:Lg p with
 |false=>rfl
 |true=>
  obtain⟨_,hl⟩:=aam hr;simp only[Bool.not_true,cond_false,length_nil,aC,cond_true,C9 (n:=n) (p:=p) (by omega) hn,bind_some,if_true];rw[lK (by rw[length_map];omega) (by rw[length_map];omega)];simp only[bind_some,bJ,aC,cond_true];rw[kS (by rw[bJ,length_map];omega) (by rw[bJ,length_map];omega)];simp only[bind_some,yG (n:=n) (p:=p) (by omega) (by omega)];have hE:dP (iT ltI (p.map (·.x)))=xsP p:=rfl;rw[hE,Dc (by omega) hn];simp only[bind_some,bE,aC,cond_true];by_cases h200:(Rk p).length>200
  ·have:decide ((((Rk p).length:Nat):Int)>200)=true:=(by simp;omega);rw[this,if_pos h200];rfl
  ·have:decide ((((Rk p).length:Nat):Int)>200)=false:=(by simp;omega);rw[this,if_neg h200];rfl
theorem Yn (p:List bK):(vF p).1.length<=200:=by
 unfold vF;split
 ·split
  ·simp
  ·simp;omega
 ·simp
def adL:sM:=sM.mk 0 0 [] []
def gm (land:List sM) (id:Int):sM×Bool:=match land.find? fun t=>t.id==id with
 |some t=>(t,true)
 |none=>(adL,false)
theorem aan {α:Type} (p:α->Bool) (l:List α):(∃ (i:Nat) (h:i < l.length),oN p l=some i∧l.find? p=some l[i])∨(oN p l=none∧l.find? p=none):=by
 rcases BJ p l with ⟨i,hi,h1,h2,h3⟩ |⟨h1,h2⟩
 ·refine .inl ⟨i,hi,h1,?_⟩;rw[List.find?_eq_some_iff_getElem];exact⟨h2,i,hi,rfl,fun j hj=>by simpa using h3 j hj⟩
 ·refine .inr ⟨h1,?_⟩;rw[List.find?_eq_none];intro x hx;rw[h2 x hx];simp
def adM:List ByteArray:=[⟨#[104,111,109,101]⟩,⟨#[115,104,111,112]⟩,⟨#[119,111,114,107]⟩,⟨#[112,97,114,107]⟩,⟨#[112,108,97,110,116]⟩,⟨#[104,97,108,108]⟩]
def nameOf (use:Int):Option ByteArray:=at? adM use
theorem Rm {V O:Type} {step:V->Option (V ⊕ O)} (R:Nat->V->Prop) (N:Nat) (Q:O->Prop) (h:∀ i v,i < N->R i v->∃ v',step v=some (.inl v')∧R (i+1) v') (hN:∀ v,R N v->∃ o,step v=some (.inr o)∧Q o):
 ∀ n,N < n->∀ v,R 0 v->∃ o,iter step n v=some o∧Q o:=by
 have main:∀ k i n v,i+k=N->k < n->R i v->∃ o,iter step n v=some o∧Q o:=by
  intro k
  induction k with
  |zero=>
   intro i n v hi hn hR;obtain⟨m,rfl⟩:∃ m,n=m+1:=⟨n - 1,by omega⟩;have:i=N:=(by omega);subst this;obtain⟨o,h1,h2⟩:=hN v hR;exact⟨o,aU h1,h2⟩
  |succ k ih=>
   intro i n v hi hn hR;obtain⟨m,rfl⟩:∃ m,n=m+1:=⟨n - 1,by omega⟩;obtain⟨v',h1,h2⟩:=h i v (by omega) hR;obtain⟨o,h3,h4⟩:=ih (i+1) m v' (by omega) (by omega) h2;exact⟨o,by rw[bT h1,h3],h4⟩
 intro n hn v hR;exact main N 0 n v (by omega) hn hR
def zh (z:uP):List aj:=if (vF z.corners).2=0 then (vF z.corners).1 else []
theorem aao (z:uP):(zh z).length<=200:=by
 unfold zh;split
 ·exact Yn _
 ·simp
theorem NR {n:Nat} (z:uP) (hn:2000<=n):vk n z=some (zh z):=by
 unfold vk zh;rw[JU _ hn];simp only[bind_some,bE,aC,cond_true];by_cases h:(vF z.corners).2=0
 ·have:((vF z.corners).2 != 0)=false:=by simp[h]
  rw[this,if_pos h];rfl
 ·have:((vF z.corners).2 != 0)=true:=by simp[h]
  rw[this,if_neg h];rfl
def bD (a b:aj):aj:=⟨max a.x0 b.x0,max a.y0 b.y0,min a.x1 b.x1,min a.y1 b.y1⟩
theorem JV (a:aj):qQ a=some (bif OkR a then (a,true)else (⟨0,0,0,0⟩,false)):=by
 unfold qQ;rw[oz];simp only[bind_some,kW]
theorem Rn (a b:aj):yB a b=some (bif OkR a&&(OkR b&&OkR (bD a b))then (bD a b,true)else (⟨0,0,0,0⟩,false)):=by
 unfold yB;rw[oz,oz];simp only[bind_some,kW];rw[show aj.mk (max a.x0 b.x0) (max a.y0 b.y0) (min a.x1 b.x1) (min a.y1 b.y1)=bD a b from rfl,JV];simp only[bind_some];generalize OkR (bD a b)=c;cases OkR a<;>cases OkR b<;>cases c<;>rfl
def adN (r:aj):Int:=i64.wrap (i64.wrap (r.x1 - r.x0)*i64.wrap (r.y1 - r.y0))
theorem acf {r:aj} (h:OkR r=true):VZ r=some (adN r):=by
 unfold VZ;rw[JV,h];rfl
def Yo (x:aj) (n:Int) (y:aj):Int:=bif OkR x&&(OkR y&&OkR (bD x y))then i64.wrap (n+adN (bD x y))else n
def Cb (a b:List aj):Int:=a.foldl (fun n x=>b.foldl (Yo x) n) 0
theorem aeQ {α β:Type} (c:Bool) (a:α) (u v:β):(bif c then (a,u)else (a,v)).1=a:=by cases c<;>rfl
theorem Ey {n:Nat} (b:List aj) (x:aj) (hb:b.length<=1000) (hn:2000<=n) (m u v:Int):∃ o,iter (l6 n b x) n (m,(0:Int),u,v)=some o∧o.1=b.foldl (Yo x) m:=by
 refine Rm (fun i (w:Int×Int×Int×Int)=>w.2.1=(i:Int)∧w.1=(b.take i).foldl (Yo x) m) b.length (fun (o:Int×Int×Int)=>o.1=b.foldl (Yo x) m) (fun i w hi hR=>?_) (fun w hR=>?_) n (by omega) _ ⟨rfl,rfl⟩
 ·obtain⟨w1,w2,w3,w4⟩:=w;obtain⟨h1,h2⟩:=hR;simp only at h1 h2;subst h1;have e:(b.take (i+1)).foldl (Yo x) m=Yo x w1 b[i]:=by rw[take_succ_eq_append_getElem hi,List.foldl_append,<- h2];rfl
  simp only[l6,bF hi,cond_true,bn hi,bind_some,Rn];have e0:Yo x w1 b[i]=bif OkR x&&(OkR b[i]&&OkR (bD x b[i]))then i64.wrap (w1+adN (bD x b[i]))else w1:=rfl;rw[e0]at e;cases hc:OkR x&&(OkR b[i]&&OkR (bD x b[i]))with
  |false=>
   rw[hc]at e;simp only[cond_false,Bool.not_false,cond_true,bind_some];exact⟨_,rfl,ay (by omega),e.symm⟩
  |true=>
   rw[hc]at e;have hcc:OkR (bD x b[i])=true:=by
    revert hc;generalize OkR (bD x b[i])=c;cases c
    ·cases OkR x<;>cases OkR b[i]<;>simp
    ·simp
   simp only[cond_true,Bool.not_true,cond_false,acf hcc,bind_some,iC];rw[show ∀ u v:Int,sub [u,v] 0 2=[u,v]from fun _ _=>rfl,Q7 _ _ (by omega)];simp only[bind_some,kW];simp only[show ∀ u v:Int,eqL [u,v].length 2=true from fun _ _=>rfl,cond_true,bind_some];refine⟨_,rfl,ay (show i < 9223372036854775807 by omega),?_⟩;rw[e];exact aeQ _ _ _ _
 ·obtain⟨w1,w2,w3,w4⟩:=w;obtain⟨h1,h2⟩:=hR;simp only at h1 h2;subst h1;simp only[l6,nM,cond_false];exact⟨_,rfl,by rw[h2,List.take_length]⟩
theorem LB {n:Nat} (a b:List aj) (ha:a.length<=1000) (hb:b.length<=1000) (hn:2000<=n):∃ q,rT n a b=some (Cb a b,q):=by
 unfold rT;obtain⟨o,h1,h2⟩:=Rm (step:=l7 n a b) (fun i (w:Int×Int×Int×Int)=>w.2.1=(i:Int)∧w.1=(a.take i).foldl (fun n x=>b.foldl (Yo x) n) 0) a.length (fun (o:Int×Int×Int)=>o.1=Cb a b) (fun i w hi hR=>by
  obtain⟨w1,w2,w3,w4⟩:=w;obtain⟨h1,h2⟩:=hR;simp only at h1 h2;subst h1;obtain⟨o,g1,g2⟩:=Ey (n:=n) b a[i] hb hn w1 w3 w4;obtain⟨o1,o2,o3⟩:=o;simp only[l7,bF hi,cond_true,bn hi,bind_some,g1];refine⟨_,rfl,ay (by omega),?_⟩;simp only at g2;rw[take_succ_eq_append_getElem hi,List.foldl_append,<- h2,g2];rfl) (fun w hR=>by
  obtain⟨w1,w2,w3,w4⟩:=w;obtain⟨h1,h2⟩:=hR;simp only at h1 h2;subst h1;simp only[l7,nM,cond_false];exact⟨_,rfl,by rw[h2,List.take_length];rfl⟩) n (by omega) (0,0,1048576,0) ⟨rfl,rfl⟩
 obtain⟨o1,o2,o3⟩:=o;simp only at h2;subst h2;exact⟨_,by rw[h1];rfl⟩
def vG (zs:List uP) (area:List aj):List Int:=bif rightL area then zs.map fun z=>Cb area (zh z)else []
theorem LC {n:Nat} (p:wL) (a:List aj) (hz:p.zones.length<=100) (ha:a.length<=900) (hn:2000<=n):rU n p a=some (vG p.zones a):=by
 unfold rU vG;rw[lN (by omega) (by omega) (by omega)];simp only[bind_some];cases rightL a with
 |false=>rfl
 |true=>
  have:=bC (l:=p.zones) (step:=l8 n p a) (fun i (s:List Int)=>((i:Int),s)) (fun z s=>s++[Cb a (zh z)]) (fun s=>s) (fun i s=>s.length<=i)
   (fun i hi s hs=>?_) (fun s hs=>by simp[l8]) n (by omega) [] (Nat.le_refl _)
  ·rw[show ((0:Nat):Int)=0 from rfl]at this;simp only[Bool.not_true,cond_false,length_nil,aC,cond_true,this,bind_some,bE];congr 1;have gen:∀ (ys:List uP) (s:List Int),ys.foldl (fun s z=>s++[Cb a (zh z)]) s=s++ys.map fun z=>Cb a (zh z):=by
    intro ys
    induction ys with
    |nil=>intro s;simp
    |cons y ys ih=>intro s;rw[foldl_cons,ih];simp
   exact gen p.zones []
  ·have cl:=aao p.zones[i];obtain⟨q,hq⟩:=LB (n:=n) a (zh p.zones[i]) (by omega) (by omega) hn;have ap:bI s.length s.length (sub ([Cb a (zh p.zones[i])]:List Int) 0 1).length 1 8=true:=bB (n:=1) (by omega) (by simp only[maxLen];omega);simp only[l8,bF hi,cond_true,bn hi,bind_some,NR _ hn,bE,aC,hq,ap,dG];refine⟨?_,by simp;omega⟩;rw[ay (by omega)];rfl
theorem Nr (zs:List uP) (a:List aj):(vG zs a).length<=zs.length:=by
 unfold vG;cases rightL a<;>simp
def uR (zs:List uP) (l:List Int) (m:Nat):Int:=(List.range m).foldl (fun (b:Int) i=>if (!((zs.getD i ⟨⟨#[]⟩,false,[]⟩).overlay)&&(decide (l.getD i 0>0)&&(decide (b < 0) || decide (l.getD i 0>l.getD b.toNat 0))))=true then (i:Int)else b) (-1)
def Cc (zs:List uP) (l:List Int) (i:Nat):Bool:=decide ((i:Int)=uR zs l l.length) || ((zs.getD i ⟨⟨#[]⟩,false,[]⟩).overlay&&decide (l.getD i 0>0))
def ofZ (zs:List uP) (area:List aj):List ByteArray:=((List.range (vG zs area).length).filter (Cc zs (vG zs area))).map fun i=>(zs.getD i ⟨⟨#[]⟩,false,[]⟩).name
theorem Ns (zs:List uP) (l:List Int):∀ m,uR zs l m= -1∨∃ k:Nat,k < m∧uR zs l m=(k:Int)
 | 0=> .inl rfl
 |m+1=>by
  have ih:=Ns zs l m;unfold uR;rw[List.range_succ,List.foldl_append];simp only[foldl_cons,List.foldl_nil];split
  ·exact .inr ⟨m,by omega,rfl⟩
  ·rcases ih with h |⟨k,h1,h2⟩
   ·exact .inl h
   ·exact .inr ⟨k,by omega,h2⟩
theorem Ez {α:Type} {l:List α} {i:Nat} (d:α) (h:i < l.length):l.getD i d=l[i]:=by simp[h]
theorem LD {n:Nat} (p:wL) (l:List Int) (hl:l.length<=p.zones.length) (hz:p.zones.length<=100) (hn:2000<=n):iter (l9 p l) n (((-1):Int),(0:Int))=some (uR p.zones l l.length):=by
 have main:=gP (step:=l9 p l) (fun i=>(uR p.zones l i,((i:Nat):Int))) l.length (uR p.zones l l.length) (fun i hi=>?_) (by simp[l9]) n (by omega)
 ·exact main
 ·have hz':i < p.zones.length:=by omega
  have e:uR p.zones l (i+1)=if (!(p.zones[i]).overlay&&(decide (l[i]>0)&&(decide (uR p.zones l i < 0) || decide (l[i]>l.getD (uR p.zones l i).toNat 0))))=true then (i:Int)else uR p.zones l i:=by
   conv=>lhs;unfold uR
   rw[List.range_succ,List.foldl_append];simp only[foldl_cons,List.foldl_nil,Ez _ hz',Ez _ hi];rfl
  rw[e];rcases Ns p.zones l i with h |⟨k,h1,h2⟩
  ·rw[h];have d:decide ((-1:Int) < 0)=true:=rfl;simp only[l9,bF hi,cond_true,bq hi,bZ hi,bind_some,bn hz',d,kW,Bool.true_or,Bool.and_true,ay (show i < 9223372036854775807 by omega)];cases (p.zones[i]).overlay<;>cases decide (l[i]>0)<;>rfl
  ·rw[h2];have d:decide (((k:Nat):Int) < 0)=false:=(by simp);have hk:k < l.length:=(by omega);simp only[l9,bF hi,cond_true,bq hi,bZ hi,bind_some,bn hz',d,kW,Bool.false_or,cond_false,bq hk,bZ hk,Int.toNat_natCast,Ez _ hk,ay (show i < 9223372036854775807 by omega)];cases (p.zones[i]).overlay<;>cases decide (l[i]>0)<;>cases decide (l[i]>l[k])<;>rfl
theorem V9 {n:Nat} (p:wL) (a:List aj) (hz:p.zones.length<=100) (ha:a.length<=900) (hn:2000<=n):Fx n p a=some (ofZ p.zones a):=by
 unfold Fx;have sl:=Nr p.zones a;rw[LC p a hz ha hn];simp only[bind_some];rw[LD p _ sl hz hn];simp only[bind_some,length_nil,aC,cond_true];unfold ofZ;generalize hL:vG p.zones a=l at*
 have:=bC (l:=List.range l.length) (step:=vo p l (uR p.zones l l.length)) (fun i (s:List ByteArray)=>((i:Int),s)) (fun i s=>bif Cc p.zones l i then s++[(p.zones.getD i ⟨⟨#[]⟩,false,[]⟩).name]else s) (fun s=>s) (fun i s=>s.length<=i)
  (fun i hi s hs=>?_) (fun s hs=>by rw[List.length_range];simp[vo]) n (by rw[List.length_range];omega) [] (Nat.le_refl _)
 ·rw[show ((0:Nat):Int)=0 from rfl]at this;simp only[this,bind_some,bE,aC,cond_true];congr 1;have gen:∀ (ys:List Nat) (s:List ByteArray),ys.foldl (fun s i=>bif Cc p.zones l i then s++[(p.zones.getD i ⟨⟨#[]⟩,false,[]⟩).name]else s) s=s++(ys.filter (Cc p.zones l)).map fun i=>(p.zones.getD i ⟨⟨#[]⟩,false,[]⟩).name:=by
   intro ys
   induction ys with
   |nil=>intro s;simp
   |cons y ys ih=>
    intro s;rw[foldl_cons,ih,List.filter_cons];cases Cc p.zones l y<;>simp
  exact gen (List.range l.length) []
 ·rw[List.length_range]at hi;have hz':i < p.zones.length:=by omega
  rw[List.getElem_range];have ap:bI s.length s.length (sub ([(p.zones[i]).name]:List ByteArray) 0 1).length 1 16=true:=bB (n:=1) (by omega) (by simp only[maxLen];omega);have hb:(((i:Nat):Int)==uR p.zones l l.length)=decide (((i:Nat):Int)=uR p.zones l l.length):=by rw[Bool.eq_iff_iff];simp
  simp only[vo,bF hi,cond_true,bq hi,bZ hi,bind_some,bn hz',hb,kW,ap,dG,aC,Cc,Ez _ hz',Ez _ hi,ay (show i < 9223372036854775807 by omega)];cases decide (((i:Nat):Int)=uR p.zones l l.length)<;>cases (p.zones[i]).overlay<;>cases decide (l[i]>0)<;>refine⟨rfl,?_⟩<;>simp<;>omega
theorem aeR (zs:List uP) (a:List aj):(ofZ zs a).length<=zs.length:=by
 unfold ofZ;rw[length_map];have h1:=length_filter_le (Cc zs (vG zs a)) (List.range (vG zs a).length);rw[List.length_range]at h1;have:=Nr zs a;omega
def sEq (a b:ByteArray):Bool:=ByteArray.toList a==ByteArray.toList b
theorem Df {n:Nat} {l:List ByteArray} {a:ByteArray} (hl:l.length < 1099511627776) (hn:l.length < n):j5 n l a=some (l.any (sEq a)):=by
 unfold j5;have e:uw n l a=VG n (fun x=>ByteArray.toList a==ByteArray.toList x) l:=by kernel_rfl
 rw[e,X0 hl hn,bind_some,OI];rfl
theorem mM {n:Nat} {l:List ByteArray} {φ:(ByteArray×Unit)->Option Bool} (p:ByteArray->Bool) (h:∀ x∈l,φ (x,())=some (p x)) (hl:l.length < 1099511627776) (hn:l.length < n):dM n l φ=some (l.any p):=by
 unfold dM;have e:mX n l φ=yw n l φ:=by kernel_rfl
 rw[e,uj p h hl hn,bind_some,OI]
def OV (r:eG) (zs:List ByteArray):Bool:=(decide (r.zones=[]) || r.zones.any fun z=>zs.any (sEq z))&&!(r.except.any fun z=>zs.any (sEq z))
theorem LF {n:Nat} (r:eG) (zs:List ByteArray) (h1:r.zones.length<=100) (h2:r.except.length<=100) (h3:zs.length<=100) (hn:2000<=n):nI n r zs=some (OV r zs):=by
 have hf:∀ x:ByteArray,gY n x zs=some (zs.any (sEq x)):=fun x=>by unfold gY;rw[Df (by omega) (by omega)];rfl
 unfold nI OV;rw[mM (fun z=>zs.any (sEq z)) (fun x _=>hf x) (by omega) (by omega),mM (fun z=>zs.any (sEq z)) (fun x _=>hf x) (by omega) (by omega)];simp only[bind_some,kW];have e:(((r.zones.length:Nat):Int)==0)=decide (r.zones=[]):=by
  rw[Bool.eq_iff_iff,beq_iff_eq,decide_eq_true_eq];constructor
  ·intro h;exact List.length_eq_zero_iff.1 (by omega)
  ·intro h;rw[h];rfl
 rw[e];cases decide (r.zones=[])<;>cases (r.zones.any fun z=>zs.any (sEq z))<;>cases (r.except.any fun z=>zs.any (sEq z))<;>rfl
def lQ (zs:List ByteArray) (day:Int) (r:eG):Bool:=decide (r.from_<=day)&&((r.until_==0 || decide (day < r.until_))&&OV r zs)
def LG (rules:List eG) (zs:List ByteArray) (day:Int):List Nat:=(List.range rules.length).filter fun i=>(rules[i]?).any (lQ zs day)
abbrev adO (r:eG):Prop:=r.zones.length<=100∧r.except.length<=100
theorem NS {n:Nat} (p:wL) (zs:List ByteArray) (day:Int) (hr:∀ r∈p.rules,adO r) (hl:p.rules.length<=100) (h3:zs.length<=100) (hn:2000<=n):vv n p zs day=some ((LG p.rules zs day).map fun (i:Nat)=>(i:Int)):=by
 unfold vv LG
 have:=bC (l:=List.range p.rules.length) (step:=nS n p zs day) (fun i (s:List Int)=>((i:Int),s)) (fun i s=>bif (p.rules[i]?).any (lQ zs day)then s++[((i:Nat):Int)]else s) (fun s=>s) (fun i s=>s.length<=i)
  (fun i hi s hs=>?_) (fun s hs=>by rw[List.length_range];simp[nS]) n (by rw[List.length_range];omega) [] (Nat.le_refl _)
 ·rw[show ((0:Nat):Int)=0 from rfl]at this;simp only[length_nil,aC,cond_true,this,bind_some,bE];congr 1;have gen:∀ (ys:List Nat) (s:List Int),ys.foldl (fun s i=>bif (p.rules[i]?).any (lQ zs day)then s++[((i:Nat):Int)]else s) s=s++(ys.filter fun i=>(p.rules[i]?).any (lQ zs day)).map fun (i:Nat)=>(i:Int):=by
   intro ys
   induction ys with
   |nil=>intro s;simp
   |cons y ys ih=>
    intro s;rw[foldl_cons,ih,List.filter_cons];cases (p.rules[y]?).any (lQ zs day)<;>simp
  exact gen (List.range p.rules.length) []
 ·rw[List.length_range]at hi;rw[List.getElem_range];obtain⟨o1,o2⟩:=hr _ (getElem_mem hi);have ap:bI s.length s.length (sub ([((i:Nat):Int)]:List Int) 0 1).length 1 8=true:=bB (n:=1) (by omega) (by simp only[maxLen];omega);have eg:(p.rules[i]?).any (lQ zs day)=lQ zs day p.rules[i]:=by rw[List.getElem?_eq_getElem hi];rfl
  rw[eg];simp only[nS,bF hi,cond_true,bn hi,bind_some,LF _ zs o1 o2 h3 hn,kW,ap,dG,aC,lQ,ay (show i < 9223372036854775807 by omega)];cases decide ((p.rules[i]).from_<=day)<;>cases (p.rules[i]).until_==0<;>cases decide (day < (p.rules[i]).until_)<;>cases OV p.rules[i] zs<;>refine⟨rfl,?_⟩<;>simp<;>omega
def JW (p:aY):Bool:=decide (0<=p.side∧p.side<=3)&&(decide (0<=p.base∧p.base<=4096)&&(decide (0<=p.num∧p.num<=4096)&&decide (1<=p.den∧p.den<=4096)))
theorem JX (p:aY):JW p=true↔(0<=p.side∧p.side<=3)∧(0<=p.base∧p.base<=4096)∧(0<=p.num∧p.num<=4096)∧(1<=p.den∧p.den<=4096):=by simp only[JW,and_eq_true,decide_eq_true_eq]
theorem CO (a b c:Int):jb a b c=some (decide (b<=a∧a<=c)):=by
 unfold jb;by_cases h1:b<=a
 ·have d:decide (b<=a)=true:=by simpa using h1
  rw[d,cond_true];congr 1;rw[Bool.eq_iff_iff];simp[h1]
 ·have d:decide (b<=a)=false:=by simpa using h1
  rw[d,cond_false];congr 1;rw[Bool.eq_iff_iff];simp[h1]
theorem EA (p:aY):sS p=some (JW p):=by
 unfold sS JW;simp only[CO,bind_some,kW];generalize decide (0<=p.side∧p.side<=3)=a;generalize decide (0<=p.base∧p.base<=4096)=b;generalize decide (0<=p.num∧p.num<=4096)=c;cases a<;>cases b<;>cases c<;>rfl
theorem zi {n:Nat} {l:List aY} {φ:(aY×Unit)->Option Bool} (p:aY->Bool) (h:∀ x∈l,φ (x,())=some (p x)) (hl:l.length < 1099511627776) (hn:l.length < n):iF n l φ=some (l.any p):=by
 unfold iF;have e:ou n l φ=yw n l φ:=by kernel_rfl
 rw[e,uj p h hl hn,bind_some,OI]
def nW (b:aj) (l:List aY):Bool:=OkR b&&!(l.any fun p=>!JW p)
theorem EB {n:Nat} (b:aj) (l:List aY) (hl:l.length<=1000) (hn:2000<=n):sU n b l=some (nW b l):=by
 unfold sU nW;rw[oz,zi (fun p=>!JW p) (fun p _=>by show qc p=_;unfold qc;rw[EA];rfl) (by omega) (by omega)];simp only[bind_some,kW];cases OkR b<;>rfl
theorem aap {a n:Int} (hn:0 < n):(if Int.tmod a n < 0 then Int.tdiv a n - 1 else Int.tdiv a n)=a/n:=by
 have h1:=Int.mul_ediv_add_emod a n;have h2:=Int.emod_nonneg a (by omega:n≠0);have h3:=Int.emod_lt_of_pos a hn;rcases Int.le_total 0 a with h |h
 ·have e1:Int.tmod a n=a%n:=Int.tmod_eq_emod_of_nonneg h;have e2:Int.tdiv a n=a/n:=Int.tdiv_eq_ediv_of_nonneg h;rw[e1,e2,if_neg (by omega)]
 ·obtain⟨b,rfl⟩:∃ b,a= -b:=⟨-a,by omega⟩;have hb:0<=b:=by omega
  have e1:Int.tmod (-b) n= -(b%n):=by rw[Int.neg_tmod,Int.tmod_eq_emod_of_nonneg hb]
  have e2:Int.tdiv (-b) n= -(b/n):=by rw[Int.neg_tdiv,Int.tdiv_eq_ediv_of_nonneg hb]
  have g1:=Int.mul_ediv_add_emod b n;have g2:=Int.emod_nonneg b (by omega:n≠0);have g3:=Int.emod_lt_of_pos b hn;rw[e1,e2];by_cases hm:b%n=0
  ·rw[if_neg (by omega)];have:(-b)/n= -(b/n):=by
    refine (Int.ediv_eq_iff_of_pos hn).2 ?_;constructor
    ·rw[Int.neg_mul,Int.mul_comm (b/n)];omega
    ·rw[Int.neg_mul,Int.mul_comm (b/n)];omega
   omega
  ·rw[if_pos (by omega)];have:(-b)/n= -(b/n) - 1:=by
    refine (Int.ediv_eq_iff_of_pos hn).2 ?_;constructor
    ·rw[Int.sub_mul,Int.neg_mul,Int.mul_comm (b/n)];omega
    ·rw[Int.sub_mul,Int.neg_mul,Int.mul_comm (b/n)];omega
   omega
theorem yI {a n:Int} (hn:0 < n) (ha: -4611686018427387904<=a∧a<=4611686018427387904):lJ a n=some (a/n):=by
 have nz:(n != 0)=true:=by simp;omega
 have hb: -4611686018427387904<=a/n∧a/n<=4611686018427387904:=by
  constructor
  ·rw[Int.le_ediv_iff_mul_le hn];have: -4611686018427387904*n<= -4611686018427387904:=(by omega);omega
  ·rcases Int.le_total 0 a with h |h
   ·have:=Int.ediv_le_self n h;omega
   ·have:a/n<=0:=by
     have:=(Int.ediv_lt_iff_lt_mul (a:=a) (b:=1) hn).2 (by omega);omega
    omega
 have hf:=aap (a:=a) hn;have ht: -4611686018427387904<=Int.tdiv a n∧Int.tdiv a n<=4611686018427387905:=by split at hf<;>omega
 unfold lJ;simp only[nz,cond_true];rw[aZ (x:=Int.tdiv a n) (by omega) (by omega),aZ (x:=Int.tdiv a n - 1) (by omega) (by omega),<- hf];by_cases h:Int.tmod a n < 0
 ·have d:decide (Int.tmod a n < 0)=true:=by simpa using h
  rw[d,if_pos h];rfl
 ·have d:decide (Int.tmod a n < 0)=false:=by simpa using h
  rw[d,if_neg h];rfl
def yJ (b:aj) (side x y:Int):Int:=if side=0 then x - b.x0 else if side=1 then b.x1 - 1 - x else if side=2 then y - b.y0 else b.y1 - 1 - y
def Yp (b:aj) (p:aY) (x y:Int):Int:=p.base+p.num*yJ b p.side x y/p.den
def aeS (b:aj) (l:List aY) (x y:Int):Int:=l.foldl (fun h p=>min h (Yp b p x y)) 4096
abbrev InG (x y:Int):Prop:=(0<=x∧x < 1048576)∧(0<=y∧y < 1048576)
theorem Yq {b:aj} (hb:OkR b=true) {x y:Int} (h:InG x y) (side:Int): -1048576<=yJ b side x y∧yJ b side x y<=1048576:=by
 simp only[OkR,and_eq_true,decide_eq_true_eq]at hb;obtain⟨h1,h2⟩:=h;unfold yJ;split
 ·omega
 ·split
  ·omega
  ·split<;>omega
theorem UH {a d:Int} (ha:0<=a∧a<=4096) (hd: -1048576<=d∧d<=1048576): -4294967296<=a*d∧a*d<=4294967296:=by
 have h1:a*d<=a*1048576:=Int.mul_le_mul_of_nonneg_left hd.2 ha.1;have h2:a*(-1048576)<=a*d:=Int.mul_le_mul_of_nonneg_left hd.1 ha.1;omega
theorem UI {a n:Int} (hn:0 < n) (ha: -4294967296<=a∧a<=4294967296): -4294967296<=a/n∧a/n<=4294967296:=by
 constructor
 ·rw[Int.le_ediv_iff_mul_le hn];omega
 ·rcases Int.le_total 0 a with h |h
  ·have:=Int.ediv_le_self n h;omega
  ·have:=(Int.ediv_lt_iff_lt_mul (a:=a) (b:=1) hn).2 (by omega);omega
theorem Wd {n:Nat} {b:aj} {l:List aY} {x y:Int} (hb:OkR b=true) (hp:∀ p∈l,JW p=true) (h:InG x y) (hl:l.length<=1000) (hn:2000<=n):FB n b l x y=some (aeS b l x y):=by
 unfold FB uD;have hr:=hb;simp only[OkR,and_eq_true,decide_eq_true_eq]at hr;obtain⟨h1,h2⟩:=h;rw[aZ (x:=x - b.x0) (by omega) (by omega),aZ (x:=b.x1 - 1) (by omega) (by omega),aZ (x:=b.x1 - 1 - x) (by omega) (by omega),aZ (x:=y - b.y0) (by omega) (by omega),aZ (x:=b.y1 - 1) (by omega) (by omega),aZ (x:=b.y1 - 1 - y) (by omega) (by omega)];simp only[bind_some];have:=Ag (l:=l) (step:=vC b l x y ⟨x - b.x0,b.x1 - 1 - x,y - b.y0,b.y1 - 1 - y⟩) (fun i (s:Int)=>(s,((i:Nat):Int))) (fun p s=>min s (Yp b p x y)) (fun s=>s) (fun i hi s=>?_) (fun s=>by simp[vC]) n (by omega) 4096
 ·rw[show ((0:Nat):Int)=0 from rfl]at this;rw[this];rfl
 ·obtain⟨s1,s2,s3,s4⟩:=(JX _).1 (hp _ (getElem_mem hi));have ib:inb (l[i]).side 4=true:=by simp[inb];omega
  have g:at? ([x - b.x0,b.x1 - 1 - x,y - b.y0,b.y1 - 1 - y]:List Int) (l[i]).side=some (yJ b (l[i]).side x y):=by
   have hs:(l[i]).side=0∨(l[i]).side=1∨(l[i]).side=2∨(l[i]).side=3:=(by omega);rcases hs with e |e |e |e<;>rw[e]<;>simp[at?,yJ]
  have db:=Yq hb ⟨h1,h2⟩ (l[i]).side;have mb:=UH s3 db;have dv:=UI (n:=(l[i]).den) (by omega) mb;simp only[vC,bF hi,cond_true,bn hi,bind_some,ib,g];rw[aZ (x:=(l[i]).num*yJ b (l[i]).side x y) (by omega) (by omega),yI (by omega) (by omega)];simp only[bind_some];rw[aZ (x:=(l[i]).base+_) (by omega) (by omega),ay (by omega)];rfl
def acg (b:aj) (l:List aY) (x y:Int):Int:=if nW b l=true∧InG x y then max 0 (aeS b l x y)else -1
theorem aeT (x y:Int):Ut gv0 x y=some (decide (InG x y)):=by
 rw[Ye];congr 1;have:OkR gv0=true:=by decide
 rw[this,Bool.true_and,Bool.eq_iff_iff];unfold jg gv0;simp only[and_eq_true,decide_eq_true_eq]
theorem tC (b:aj) (l:List aY):nW b l=true↔OkR b=true∧∀ p∈l,JW p=true:=by
 unfold nW;rw[and_eq_true,Bool.not_eq_true',List.any_eq_false];simp
theorem Wh {n:Nat} (b:aj) (l:List aY) (x y:Int) (hl:l.length<=1000) (hn:2000<=n):FC n b l x y=some (acg b l x y):=by
 unfold FC acg;rw[EB b l hl hn,aeT];simp only[bind_some,kW];by_cases h:nW b l=true∧InG x y
 ·obtain⟨h1,h2⟩:=h;have d:decide (InG x y)=true:=by simpa using h2
  obtain⟨v1,v2⟩:=(tC b l).1 h1;rw[h1,d,if_pos ⟨rfl,h2⟩,Wd v1 v2 h2 hl hn];rfl
 ·rw[if_neg h];cases hv:nW b l with
  |false=>rfl
  |true=>
   have d:decide (InG x y)=false:=(by rw[decide_eq_false_iff_not];exact fun h2=>h ⟨hv,h2⟩);rw[d];rfl
def asks (b:aj) (z:Int) (p:aY) (x y:Int):Prop:=(z - p.base)*p.den<=p.num*yJ b p.side x y
theorem Ro {b:aj} {z:Int} {p:aY} (hp:JW p=true) (x y:Int):asks b z p x y↔z<=Yp b p x y:=by
 obtain⟨s1,s2,s3,s4⟩:=(JX _).1 hp;unfold asks Yp;have:=Int.le_ediv_iff_mul_le (a:=z - p.base) (b:=p.num*yJ b p.side x y) (c:=p.den) (by omega);rw[<- this];omega
theorem aeU {k d n m:Int} (hn:0 < n):(k*m<=n*d)↔ -((-k)*m/n)<=d:=by
 have:=Int.le_ediv_iff_mul_le (a:= -d) (b:=(-k)*m) (c:=n) hn;rw[show (-((-k)*m/n)<=d)↔ -d<=(-k)*m/n by omega,this,Int.neg_mul,Int.neg_mul,Int.mul_comm d n];omega
abbrev St4:=Int×Int×Int×Int
def Gm (s:St4):aj:=⟨s.1,s.2.1,s.2.2.1,s.2.2.2⟩
def wW (b:aj) (z:Int) (p:aY) (s:St4):St4 ⊕ ((Int×Int×Int×Int) ⊕ (aj×Bool)):=
 if p.num=0 then (if z>p.base then .inr (.inr (⟨0,0,0,0⟩,false))else .inl s)
 else if p.side=0 then .inl (max s.1 (b.x0+ -((p.base - z)*p.den/p.num)),s.2.1,s.2.2.1,s.2.2.2)
 else if p.side=1 then .inl (s.1,s.2.1,min s.2.2.1 (b.x1 - -((p.base - z)*p.den/p.num)),s.2.2.2)
 else if p.side=2 then .inl (s.1,max s.2.1 (b.y0+ -((p.base - z)*p.den/p.num)),s.2.2.1,s.2.2.2)
 else .inl (s.1,s.2.1,s.2.2.1,min s.2.2.2 (b.y1 - -((p.base - z)*p.den/p.num)))
theorem Rp {n:Nat} {b:aj} {l:List aY} {z:Int} (hb:OkR b=true) (hp:∀ p∈l,JW p=true) (hz:0<=z∧z<=4096) (hl:l.length<=1000) (hn:2000<=n) (s:St4):
 iter (nJ b l z) n ((0:Int),s)=some (wI (wW b z) (fun s=> .inl s) l s):=by
 have hr:=hb;simp only[OkR,and_eq_true,decide_eq_true_eq]at hr;have:=abT (l:=l) (step:=nJ b l z) (fun i (s:St4)=>(((i:Nat):Int),s)) (wW b z) (fun s=> .inl s) (fun i hi s=>?_) (fun s=>?_) n (by omega) s
 ·exact this
 ·obtain⟨v2,v3,v4,v5⟩:=s;obtain⟨s1,s2,s3,s4⟩:=(JX _).1 (hp _ (getElem_mem hi));have mb:=UH (a:=(l[i]).den) (d:=(l[i]).base - z) (by omega) (by omega);rw[Int.mul_comm]at mb;simp only[nJ,bF hi,cond_true,bn hi,bind_some];rw[aZ (x:=(l[i]).base - z) (by omega) (by omega),aZ (x:=((l[i]).base - z)*(l[i]).den) (by omega) (by omega)];unfold wW;by_cases h0:(l[i]).num=0
  ·have e0:((l[i]).num==0)=true:=(by simpa using h0);rw[e0,if_pos h0];by_cases hzb:z>(l[i]).base
   ·have d:decide (z>(l[i]).base)=true:=(by simpa using hzb);rw[if_pos hzb];simp only[cond_true,d];rfl
   ·have d:decide (z>(l[i]).base)=false:=(by simpa using hzb);rw[if_neg hzb];simp only[cond_true,cond_false,d,gW,ay (show i < 9223372036854775807 by omega)]
  ·have e0:((l[i]).num==0)=false:=(by simpa using h0);have dv:=UI (n:=(l[i]).num) (by omega) mb;rw[e0,if_neg h0];simp only[cond_false];rw[yI (by omega) (by omega)];simp only[bind_some];generalize ((l[i]).base - z)*(l[i]).den/(l[i]).num=q at*;rw[aZ (x:=0 - q) (by omega) (by omega),Int.zero_sub,aZ (x:=b.x0+ -q) (by omega) (by omega),aZ (x:=b.x1 - -q) (by omega) (by omega),aZ (x:=b.y0+ -q) (by omega) (by omega),aZ (x:=b.y1 - -q) (by omega) (by omega)];have hs:(l[i]).side=0∨(l[i]).side=1∨(l[i]).side=2∨(l[i]).side=3:=(by omega);rcases hs with e |e |e |e<;>rw[e]<;>simp[ay (show i < 9223372036854775807 by omega)]
 ·obtain⟨v2,v3,v4,v5⟩:=s;simp only[nJ,nM,cond_false]
def afg (b:aj) (z:Int) (l:List aY) (s:St4):Prop:=
    (∃ t,wI (wW b z) (fun s=>(.inl s:(Int×Int×Int×Int) ⊕ (aj×Bool))) l s= .inl t∧(s.1<=t.1∧s.2.1<=t.2.1∧t.2.2.1<=s.2.2.1∧t.2.2.2<=s.2.2.2)∧∀ x y,jg (Gm t) x y=true↔jg (Gm s) x y=true∧∀ p∈l,asks b z p x y)∨
    (wI (wW b z) (fun s=>(.inl s:(Int×Int×Int×Int) ⊕ (aj×Bool))) l s= .inr (⟨0,0,0,0⟩,false)∧∃ p∈l,∀ x y,¬ asks b z p x y)
theorem dI (r:aj) (x y:Int):jg r x y=true↔(r.x0<=x∧x < r.x1)∧(r.y0<=y∧y < r.y1):=by simp only[jg,and_eq_true,decide_eq_true_eq]
theorem Rq {b:aj} {z:Int}:∀ (l:List aY),(∀ p∈l,JW p=true)->∀ s:St4,afg b z l s
 |[],_,s=> .inl ⟨s,rfl,⟨Int.le_refl _,Int.le_refl _,Int.le_refl _,Int.le_refl _⟩,fun x y=>by simp⟩
 |p::l,hp,s=>by
  have hp0:=hp p mem_cons_self;have ih:=Rq (b:=b) (z:=z) l fun q hq=>hp q (mem_cons_of_mem _ hq);obtain⟨s1,s2,s3,s4⟩:=(JX _).1 hp0;have go:∀ s':St4,wW b z p s= .inl s'->(s.1<=s'.1∧s.2.1<=s'.2.1∧s'.2.2.1<=s.2.2.1∧s'.2.2.2<=s.2.2.2)->(∀ x y,jg (Gm s') x y=true↔jg (Gm s) x y=true∧asks b z p x y)->afg b z (p::l) s:=fun s' hf hb' he=>by
   have hl:wI (wW b z) (fun s=>(.inl s:(Int×Int×Int×Int) ⊕ (aj×Bool))) (p::l) s=wI (wW b z) (fun s=>(.inl s:(Int×Int×Int×Int) ⊕ (aj×Bool))) l s':=(by simp only[wI,hf]);rcases ih s' with ⟨t,t1,t2,t3⟩ |⟨t1,q,hq,t2⟩
   ·exact .inl ⟨t,by rw[hl,t1],⟨by omega,by omega,by omega,by omega⟩,fun x y=>by
     rw[t3,he];simp only[mem_cons,forall_eq_or_imp,and_assoc]⟩
   ·exact .inr ⟨by rw[hl,t1],q,mem_cons_of_mem _ hq,t2⟩
  by_cases h0:p.num=0
  ·by_cases hz:z>p.base
   ·refine .inr ⟨?_,p,mem_cons_self,fun x y ha=>?_⟩
    ·have hf:wW b z p s= .inr (.inr (⟨0,0,0,0⟩,false)):=(by unfold wW;rw[if_pos h0,if_pos hz]);simp only[wI,hf]
    ·unfold asks at ha;rw[h0,Int.zero_mul]at ha;have:0 < (z - p.base)*p.den:=Int.mul_pos (by omega) (by omega);omega
   ·refine go s (by unfold wW;rw[if_pos h0,if_neg hz]) ⟨Int.le_refl _,Int.le_refl _,Int.le_refl _,Int.le_refl _⟩ fun x y=>?_;have:asks b z p x y:=by
     unfold asks;rw[h0,Int.zero_mul];have:=Int.mul_nonneg (a:=p.base - z) (b:=p.den) (by omega) (by omega);rw[show z - p.base= -(p.base - z)by omega,Int.neg_mul];omega
    simp[this]
  ·have hn:0 < p.num:=(by omega);have key:∀ x y,asks b z p x y↔ -((p.base - z)*p.den/p.num)<=yJ b p.side x y:=fun x y=>by
    unfold asks;rw[aeU hn,show -(z - p.base)=p.base - z by omega]
   have hs:p.side=0∨p.side=1∨p.side=2∨p.side=3:=(by omega);generalize hq:(p.base - z)*p.den/p.num=q at key;rcases hs with e |e |e |e
   ·refine go (max s.1 (b.x0+ -q),s.2.1,s.2.2.1,s.2.2.2) (by unfold wW;rw[if_neg h0,if_pos e,hq]) ⟨by simp only;omega,Int.le_refl _,Int.le_refl _,Int.le_refl _⟩ fun x y=>?_;rw[key];simp only[dI,Gm,yJ,e,if_true];omega
   ·refine go (s.1,s.2.1,min s.2.2.1 (b.x1 - -q),s.2.2.2) (by unfold wW;rw[if_neg h0,if_neg (by omega),if_pos e,hq]) ⟨Int.le_refl _,Int.le_refl _,by simp only;omega,Int.le_refl _⟩ fun x y=>?_;rw[key];simp only[dI,Gm,yJ,e,if_neg (show ¬ (1:Int)=0 by omega),if_true];omega
   ·refine go (s.1,max s.2.1 (b.y0+ -q),s.2.2.1,s.2.2.2) (by unfold wW;rw[if_neg h0,if_neg (by omega),if_neg (by omega),if_pos e,hq]) ⟨Int.le_refl _,by simp only;omega,Int.le_refl _,Int.le_refl _⟩ fun x y=>?_;rw[key];simp only[dI,Gm,yJ,e,if_neg (show ¬ (2:Int)=0 by omega),if_neg (show ¬ (2:Int)=1 by omega),if_true];omega
   ·refine go (s.1,s.2.1,s.2.2.1,min s.2.2.2 (b.y1 - -q)) (by unfold wW;rw[if_neg h0,if_neg (by omega),if_neg (by omega),if_neg (by omega),hq]) ⟨Int.le_refl _,Int.le_refl _,Int.le_refl _,by simp only;omega⟩ fun x y=>?_;rw[key];simp only[dI,Gm,yJ,e,if_neg (show ¬ (3:Int)=0 by omega),if_neg (show ¬ (3:Int)=1 by omega),if_neg (show ¬ (3:Int)=2 by omega)];omega
theorem agE (x y:Int):jg (Gm (0,0,1048576,1048576)) x y=true↔InG x y:=by
 show ((decide (0<=x)&&decide (x < 1048576))&&(decide (0<=y)&&decide (y < 1048576)))=true↔_;simp only[and_eq_true,decide_eq_true_eq]
theorem NT {n:Nat} (b:aj) (l:List aY) {z:Int} (hz:1<=z∧z<=4096) (hl:l.length<=1000) (hn:2000<=n):
 ∃ r,BV n b l z=some r∧r.1.length<=1∧(∀ q∈r.1,OkR q=true)∧∀ x y,aV r.1 x y=true↔nW b l=true∧InG x y∧∀ p∈l,z<=Yp b p x y:=by
 unfold BV;rw[EB b l hl hn];simp only[bind_some];cases hv:nW b l with
 |false=>exact⟨_,rfl,by simp,by simp,fun x y=>by simp[aV]⟩
 |true=>
  obtain⟨v1,v2⟩:=(tC b l).1 hv;have dz:decide (0<=z∧z<=4096)=true:=by simp;omega
  have ez:(z==0)=false:=by simp;omega
  simp only[Bool.not_true,cond_false,CO,dz,bind_some,ez];unfold G5;rw[show ((0:Int),gv0.x0,gv0.y0,gv0.x1,gv0.y1)=((0:Int),((0,0,1048576,1048576):St4))from rfl,Rp v1 v2 (by omega) hl hn];rcases Rq (b:=b) (z:=z) l v2 (0,0,1048576,1048576)with ⟨⟨t1,t2,t3,t4⟩,h1,h2,h3⟩ |⟨h1,p,hp,h2⟩
  ·rw[h1];simp only[gW,kW,bind_some];simp only at h2;have h3':∀ x y,jg ⟨t1,t2,t3,t4⟩ x y=true↔InG x y∧∀ p∈l,z<=Yp b p x y:=fun x y=>by
    have:=h3 x y;rw[show Gm (t1,t2,t3,t4)=⟨t1,t2,t3,t4⟩from rfl]at this;rw[this,agE];constructor
    ·rintro⟨a,b⟩;exact⟨a,fun p hp=>(Ro (v2 p hp) x y).1 (b p hp)⟩
    ·rintro⟨a,b⟩;exact⟨a,fun p hp=>(Ro (v2 p hp) x y).2 (b p hp)⟩
   by_cases hx:t1 < t3
   ·have dx:decide (t1 < t3)=true:=(by simpa using hx);simp only[dx,cond_true];by_cases hy:t2 < t4
    ·have dy:decide (t2 < t4)=true:=(by simpa using hy);simp only[dy,cond_true];refine⟨([aj.mk t1 t2 t3 t4],0),rfl,by simp,fun q hq=>?_,fun x y=>?_⟩
     ·rw[mem_singleton.1 hq];simp only[OkR,and_eq_true,decide_eq_true_eq];omega
     ·rw[show aV [aj.mk t1 t2 t3 t4] x y=jg ⟨t1,t2,t3,t4⟩ x y by simp[aV,jg],h3'];simp
    ·have dy:decide (t2 < t4)=false:=(by simpa using hy);simp only[dy,cond_false];refine⟨_,rfl,by simp,by simp,fun x y=>?_⟩;have h0:jg ⟨t1,t2,t3,t4⟩ x y=false:=(by simp only[jg];rw[Bool.and_eq_false_iff];right;rw[Bool.and_eq_false_iff,decide_eq_false_iff_not,decide_eq_false_iff_not];omega);have:=h3' x y;rw[h0]at this;simp only[aV,List.any_nil,Bool.false_eq_true,false_iff,true_and];exact fun h=>by have:=this.2 h;cases this
   ·have dx:decide (t1 < t3)=false:=(by simpa using hx);simp only[dx,cond_false];refine⟨_,rfl,by simp,by simp,fun x y=>?_⟩;have h0:jg ⟨t1,t2,t3,t4⟩ x y=false:=(by simp only[jg];rw[Bool.and_eq_false_iff];left;rw[Bool.and_eq_false_iff,decide_eq_false_iff_not,decide_eq_false_iff_not];omega);have:=h3' x y;rw[h0]at this;simp only[aV,List.any_nil,Bool.false_eq_true,false_iff,true_and];exact fun h=>by have:=this.2 h;cases this
  ·rw[h1];simp only[KY,bind_some,cond_false];refine⟨_,rfl,by simp,by simp,fun x y=>?_⟩;simp only[aV,List.any_nil,Bool.false_eq_true,false_iff,true_and];rintro⟨_,h⟩;exact h2 x y ((Ro (v2 p hp) x y).2 (h p hp))
end Go.Proofs
