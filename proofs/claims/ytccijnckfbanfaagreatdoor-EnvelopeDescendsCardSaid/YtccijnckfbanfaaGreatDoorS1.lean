/-
  What the printed functions of package slices and cmp come to.
-/
import Derived.Test.YtccijnckfbanfaaGreatDoorTD2
open Go.IntKind (i64)
open Option (bind_some)
open List (map_cons mem_cons append_assoc mem_append length_take mem_map all_eq_true mem_singleton nil_append length_append getElem_mem length_cons length_map mem_iff_getElem append_nil length_drop length_nil take_succ_eq_append_getElem mem_cons_of_mem foldl_cons mem_filter any_eq_true mem_cons_self pairwise_cons drop_eq_getElem_cons set_append_right length_filter_le mem_flatMap pairwise_append getElem_drop)
open Bool (and_eq_true)
namespace Go.Proofs
open Go.Gb Go.RowKit
abbrev ltI (a b:Int):Bool:=decide (a < b)
theorem Oe (a b:Int):cmp_Less_int a b=some (ltI a b):=by simp[cmp_Less_int,cmp_isNaN_int]
theorem iE (a b:Int):cmp_Compare_int a b=some (if a < b then -1 else if b < a then 1 else 0):=by
 by_cases h1:a < b
 ·simp[cmp_Compare_int,cmp_isNaN_int,h1]
 ·by_cases h2:b < a
  ·simp[cmp_Compare_int,cmp_isNaN_int,h1,h2]
  ·simp[cmp_Compare_int,cmp_isNaN_int,h1,h2]
theorem TB {x:Nat} (k:Nat) (h:2 ^ k<=x):Go.Sort.bitsLen x=Go.Sort.bitsLen (x/2 ^ k)+k:=by
 have key:∀ m,Go.Sort.bitsLen x<=m+k↔Go.Sort.bitsLen (x/2 ^ k)<=m:=by
  intro m;rw[Go.Sort.bitsLen_le_iff,Go.Sort.bitsLen_le_iff,Nat.pow_add,Nat.div_lt_iff_lt_mul (Nat.two_pow_pos k)]
 have h1:=(key (Go.Sort.bitsLen (x/2 ^ k))).2 (Nat.le_refl _);have hk:k<=Go.Sort.bitsLen x:=by
  rcases Nat.lt_or_ge (Go.Sort.bitsLen x) k with hlt |hge
  ·have:=(Go.Sort.bitsLen_le_iff x (Go.Sort.bitsLen x)).1 (Nat.le_refl _);have h2:2 ^ Go.Sort.bitsLen x<=2 ^ k:=Nat.pow_le_pow_right (by omega) (by omega);omega
  ·exact hge
 have h2:=(key (Go.Sort.bitsLen x - k)).1 (by omega);omega
theorem agt {v:Nat} (h:v < 256):IntKind.u8.wrap ((v:Nat):Int)=(v:Int):=by
 simp only[IntKind.wrap,IntKind.bits,IntKind.signed,Bool.false_and,Bool.false_eq_true,if_false];omega
set_option maxRecDepth 100000 in
theorem yX {x:Nat} (hx:x < 1152921504606846976):bits_Len (x:Int)=some ((Go.Sort.bitsLen x:Nat):Int):=by
 unfold bits_Len bits_Len64;have tab:∀ v:Fin 256,UC (⟨#[0,1,2,2,3,3,3,3,4,4,4,4,4,4,4,4,5,5,5,5,5,5,5,5,5,5,5,5,5,5,5,5,6,6,6,6,6,6,6,6,6,6,6,6,6,6,6,6,6,6,6,6,6,6,6,6,6,6,6,6,6,6,6,6,7,7,7,7,7,7,7,7,7,7,7,7,7,7,7,7,7,7,7,7,7,7,7,7,7,7,7,7,7,7,7,7,7,7,7,7,7,7,7,7,7,7,7,7,7,7,7,7,7,7,7,7,7,7,7,7,7,7,7,7,7,7,7,7,8,8,8,8,8,8,8,8,8,8,8,8,8,8,8,8,8,8,8,8,8,8,8,8,8,8,8,8,8,8,8,8,8,8,8,8,8,8,8,8,8,8,8,8,8,8,8,8,8,8,8,8,8,8,8,8,8,8,8,8,8,8,8,8,8,8,8,8,8,8,8,8,8,8,8,8,8,8,8,8,8,8,8,8,8,8,8,8,8,8,8,8,8,8,8,8,8,8,8,8,8,8,8,8,8,8,8,8,8,8,8,8,8,8,8,8,8,8,8,8,8,8,8,8,8,8,8,8]⟩) ((v.val:Nat):Int)=some ((Go.Sort.bitsLen v.val:Nat):Int):=by decide +kernel
 have k32:(decide (0<=32)&&decide (32<=IntKind.u64.bits))=true:=rfl;have k16:(decide (0<=16)&&decide (16<=IntKind.u64.bits))=true:=rfl;have k8:(decide (0<=8)&&decide (8<=IntKind.u64.bits))=true:=rfl;have step:∀ (x k s:Nat),∃ y t:Nat,((bif (decide ((x:Int)>=((2 ^ k:Nat):Int)))then some (((x/2 ^ k:Nat):Int),((s+k:Nat):Int))else some ((x:Int),(s:Int))):Option (Int×Int))=some ((y:Int),(t:Int))∧Go.Sort.bitsLen x+s=Go.Sort.bitsLen y+t∧(y < 2 ^ k∨y=x/2 ^ k)∧t<=s+k:=by
  intro x k s;by_cases h:2 ^ k<=x
  ·have c:decide ((x:Int)>=((2 ^ k:Nat):Int))=true:=(by rw[decide_eq_true_eq];omega);refine⟨x/2 ^ k,s+k,by rw[c];rfl,?_,.inr rfl,Nat.le_refl _⟩;have:=TB k h;omega
  ·have c:decide ((x:Int)>=((2 ^ k:Nat):Int))=false:=(by rw[decide_eq_false_iff_not];omega);exact⟨x,s,by rw[c];rfl,rfl,.inl (by omega),by omega⟩
 have sh:∀ (v k:Nat),((v:Int)/2 ^ ((k:Nat):Int).toNat)=((v/2 ^ k:Nat):Int):=by
  intro v k;rw[Int.toNat_natCast]
  push_cast
  rfl
 obtain⟨y1,t1,e1,b1,c1,d1⟩:=step x 32 0;obtain⟨y2,t2,e2,b2,c2,d2⟩:=step y1 16 t1;obtain⟨y3,t3,e3,b3,c3,d3⟩:=step y2 8 t2;have s1:((bif (decide ((x:Int)>=(4294967296:Int)))then bif ((decide (0<=32)&&decide (32<=IntKind.u64.bits)))then some (((x:Int)/2 ^ (32:Int).toNat),(32:Int))else none else some ((x:Int),(0:Int))):Option (Int×Int))=some ((y1:Int),(t1:Int)):=by
  rw[k32,<- e1];rw[show ((x:Int)/2 ^ (32:Int).toNat)=((x/2 ^ 32:Nat):Int)from sh x 32];rfl
 have s2:((bif (decide ((y1:Int)>=(65536:Int)))then bif ((decide (0<=16)&&decide (16<=IntKind.u64.bits)))then some (((y1:Int)/2 ^ (16:Int).toNat),(i64.wrap ((t1:Int)+16)))else none else some ((y1:Int),(t1:Int))):Option (Int×Int))=some ((y2:Int),(t2:Int)):=by
  rw[k16,<- e2];rw[show ((y1:Int)/2 ^ (16:Int).toNat)=((y1/2 ^ 16:Nat):Int)from sh y1 16,show i64.wrap ((t1:Int)+16)=((t1+16:Nat):Int)from Jv (j:=16) (by omega)];rfl
 have s3:((bif (decide ((y2:Int)>=(256:Int)))then bif ((decide (0<=8)&&decide (8<=IntKind.u64.bits)))then some (((y2:Int)/2 ^ (8:Int).toNat),(i64.wrap ((t2:Int)+8)))else none else some ((y2:Int),(t2:Int))):Option (Int×Int))=some ((y3:Int),(t3:Int)):=by
  rw[k8,<- e3];rw[show ((y2:Int)/2 ^ (8:Int).toNat)=((y2/2 ^ 8:Nat):Int)from sh y2 8,show i64.wrap ((t2:Int)+8)=((t2+8:Nat):Int)from Jv (j:=8) (by omega)];rfl
 have hy:y3 < 256:=by
  have q1:(2:Nat) ^ 32=4294967296:=rfl;have q2:(2:Nat) ^ 16=65536:=rfl;have q3:(2:Nat) ^ 8=256:=rfl;rw[q1]at c1;rw[q2]at c2;rw[q3]at c3;omega
 simp only[s1,bind_some,s2,s3];rw[agt hy,show UC _ ((y3:Nat):Int)=_ from tab ⟨y3,hy⟩];have hb:Go.Sort.bitsLen y3<=8:=(Go.Sort.bitsLen_le_iff _ _).2 (by simpa using hy);simp only[bind_some];rw[kR (by omega),Jv (by omega)];congr 2;omega
theorem aen:U6 aN:=by
 intro L h8 hL;have hb:Go.Sort.bitsLen L<=60:=(Go.Sort.bitsLen_le_iff _ _).2 (by omega);have hp:2 ^ Go.Sort.bitsLen L<=2 ^ 60:=Nat.pow_le_pow_right (by omega) hb;unfold aN;rw[kW (by omega),yX hL,bind_some];have c:(decide ((0:Int)<=((Go.Sort.bitsLen L:Nat):Int))&&decide (((Go.Sort.bitsLen L:Nat):Int)<=((IntKind.u64.bits:Nat):Int)))=true:=by
  have:((IntKind.u64.bits:Nat):Int)=64:=rfl;rw[this,and_eq_true,decide_eq_true_eq,decide_eq_true_eq];omega
 rw[c,cond_true,Int.toNat_natCast,Int.one_mul,show ((2:Int) ^ Go.Sort.bitsLen L)=((2 ^ Go.Sort.bitsLen L:Nat):Int)by push_cast;rfl,kW (by omega)]
theorem aeo:Rf aQ:=by
 intro r hr;have c13:(decide (0<=13)&&decide (13<=IntKind.u64.bits))=true:=rfl;have c7:(decide (0<=7)&&decide (7<=IntKind.u64.bits))=true:=rfl;have c17:(decide (0<=17)&&decide (17<=IntKind.u64.bits))=true:=rfl;have sl:∀ (v k:Nat),IntKind.u64.wrap ((v:Int)*2 ^ ((k:Nat):Int).toNat)=((v*2 ^ k%18446744073709551616:Nat):Int):=by
  intro v k;rw[Int.toNat_natCast,show ((v:Int)*2 ^ k)=((v*2 ^ k:Nat):Int)by push_cast;rfl];simp only[IntKind.wrap,IntKind.bits,IntKind.signed,Bool.false_and,Bool.false_eq_true,if_false];omega
 have sr:∀ (v k:Nat),((v:Int)/2 ^ ((k:Nat):Int).toNat)=((v/2 ^ k:Nat):Int):=by
  intro v k;rw[Int.toNat_natCast];push_cast;rfl
 have ha:r ^^^ (r*2 ^ 13%18446744073709551616) < 18446744073709551616:=Nat.xor_lt_two_pow (n:=64) (by omega) (by omega);have hb:(r ^^^ (r*2 ^ 13%18446744073709551616)) ^^^ ((r ^^^ (r*2 ^ 13%18446744073709551616))/2 ^ 7) < 18446744073709551616:=Nat.xor_lt_two_pow (n:=64) (by omega) (by omega);unfold aQ;rw[c13,c7,c17];simp only[cond_true];rw[show IntKind.u64.wrap ((r:Int)*2 ^ (13:Int).toNat)=((r*2 ^ 13%18446744073709551616:Nat):Int)from sl r 13,Rc hr (by omega)];rw[show (((r ^^^ (r*2 ^ 13%18446744073709551616):Nat):Int)/2 ^ (7:Int).toNat)=_ from sr _ 7,Rc ha (by omega)];rw[show IntKind.u64.wrap (((((r ^^^ (r*2 ^ 13%18446744073709551616)) ^^^ ((r ^^^ (r*2 ^ 13%18446744073709551616))/2 ^ 7):Nat)):Int)*2 ^ (17:Int).toNat)=_ from sl _ 17,Rc hb (by omega)];rfl
theorem O8:Go.Sort.SWO ltI where
 irrefl x:=by simp[ltI]
 trans x y z h1 h2:=by simp only[ltI,decide_eq_true_eq]at *;omega
 ntrans x y z h1 h2:=by simp only[ltI,decide_eq_false_iff_not]at *;omega
theorem Vb:∀ {l m:List Int},l.Perm m->l.Pairwise (fun x y=>ltI y x=false)->m.Pairwise (fun x y=>ltI y x=false)->l=m
 |[],m,h,_,_=>(List.nil_perm.1 h).symm
 |x::l,[],h,_,_=>by have:=h.length_eq;simp at this
 |x::l,y::m,h,h1,h2=>by
  have e:x=y:=by
   rw[pairwise_cons]at h1 h2;have m1:x∈y::m:=h.mem_iff.1 mem_cons_self;have m2:y∈x::l:=h.mem_iff.2 mem_cons_self;rcases mem_cons.1 m1 with e |m1
   ·exact e
   ·rcases mem_cons.1 m2 with e |m2
    ·exact e.symm
    ·have a:=h1.1 y m2;have b:=h2.1 x m1;simp only[ltI,decide_eq_false_iff_not]at a b;omega
  subst e;rw[pairwise_cons]at h1 h2;rw[Vb (List.Perm.cons_inv h) h1.2 h2.2]
theorem EM {α:Type} (lt:α->α->Bool) (x:α):∀ ys:List α,(jK lt x ys).Perm (x::ys)
 |[]=>List.Perm.refl _
 |y::ys=>by
  simp only[jK];cases lt x y with
  |true=>exact ((EM lt x ys).cons y).trans (List.Perm.swap x y ys)
  |false=>exact List.Perm.refl _
theorem Rp {α:Type} (lt:α->α->Bool) (l:List α):(iw lt l).Perm l:=by
 have gen:∀ (xs rs:List α),(xs.foldl (fun rs x=>jK lt x rs) rs).Perm (xs++rs):=by
  intro xs
  induction xs with
  |nil=>intro rs;exact List.Perm.refl _
  |cons x xs ih=>
   intro rs;refine (ih _).trans ?_;refine ((EM lt x rs).append_left xs).trans ?_;exact List.perm_middle
 unfold iw;exact (List.reverse_perm _).trans (by simpa using gen l [])
theorem insRev_sorted {α:Type} {lt:α->α->Bool} (hS:Go.Sort.SWO lt) (x:α):∀ ys:List α,ys.Pairwise (fun a b=>lt a b=false)->(jK lt x ys).Pairwise fun a b=>lt a b=false
 |[],_=>by simp[jK]
 |y::ys,h=>by
  have h':=pairwise_cons.1 h;simp only[jK];cases hxy:lt x y with
  |true=>
   rw[cond_true,pairwise_cons];refine⟨fun z hz=>?_,insRev_sorted hS x ys h'.2⟩;rcases mem_cons.1 ((EM lt x ys).mem_iff.1 hz)with rfl |hz
   ·cases hyx:lt y z with
    |false=>rfl
    |true=>have:=hS.trans _ _ _ hxy hyx;rw[hS.irrefl]at this;cases this
   ·exact h'.1 z hz
  |false=>
   rw[cond_false,pairwise_cons];refine⟨fun z hz=>?_,h⟩;rcases mem_cons.1 hz with rfl |hz
   ·exact hxy
   ·exact hS.ntrans _ _ _ hxy (h'.1 z hz)
theorem isort_sorted {α:Type} {lt:α->α->Bool} (hS:Go.Sort.SWO lt) (l:List α):(iw lt l).Pairwise fun x y=>lt y x=false:=by
 have gen:∀ (xs rs:List α),rs.Pairwise (fun a b=>lt a b=false)->(xs.foldl (fun rs x=>jK lt x rs) rs).Pairwise fun a b=>lt a b=false:=by
  intro xs
  induction xs with
  |nil=>intro rs h;exact h
  |cons x xs ih=>intro rs h;exact ih _ (insRev_sorted hS x rs h)
 unfold iw;rw[List.pairwise_reverse];exact gen l [] List.Pairwise.nil
theorem acW (l:List Int):wV ltI l=iw ltI l:=
 Vb ((Cg O8 l).trans (Rp ltI l).symm) (Ch O8 l) (isort_sorted O8 l)
theorem YS (n:Nat):∀ m,d9 n m=fC cmp_Less_int (fun r=>r) aN aQ n m
 | 0=>rfl
 |m+1=>by
  show jM n (d9 n m)=iA cmp_Less_int (fun r=>r) aN aQ n (fC cmp_Less_int (fun r=>r) aN aQ n m);rw[YS n m];generalize fC cmp_Less_int (fun r=>r) aN aQ n m=rc
  kernel_rfl
theorem jV {n:Nat} {l:List Int} (hl:l.length < 1099511627776) (hn:l.length < n):iX n l=some (iw ltI l):=by
 unfold iX lu;rw[kW (by omega),yX (by omega),YS];simp only[bind_some,aC,cond_true];rw[wW (lt:=ltI) O8 (f:=ltI) (q:=fun r=>r) Oe (fun _ _=>rfl) aen aeo (by omega) hn hn,acW];rfl
theorem ji {n:Nat} {l:List Int} (hl:l.length < 1099511627776) (hn:l.length < n):iB n l=some ((),dS l):=by
 rw[<- YP];exact Tz (eq:=fun x y=>x==y) (ne:=fun x y=>x != y) (fun x y=>by simp[bne]) hl hn
theorem Lm {l:List aj} (h:l.length < 1099511627776):sH l=some l:=Nu (b:=32) (by omega) (by simp only[maxLen];omega)
theorem JY {n:Nat} {l:List (List aj)} (hf:l.flatten.length < 1099511627776) (hl:l.length < 1099511627776) (hn:l.length < n):wY n l=some l.flatten:=Jt (aj.mk 0 0 0 0) (b:=32) hf (by omega) hl hn
theorem Lp {n:Nat} {a b:List aj} (hl:a.length < 1099511627776) (hn:a.length < n):kZ n a b=some (decide (a=b)):=by
 have e:kZ n a b=Ju n (fun x1 x2:aj=>!((x1.x0==(x2.x0:Int))&&((x1.y0==(x2.y0:Int))&&((x1.x1==(x2.x1:Int))&&((x1.y1==(x2.y1:Int))&&true))))) a b:=by kernel_rfl
 rw[e];refine Et (fun x y=>?_) hl hn;obtain⟨a,b,c,d⟩:=x;obtain⟨e,f,g,h⟩:=y;simp only[aj.mk.injEq,Bool.and_true];rw[Bool.eq_iff_iff];simp
theorem A7 {n:Nat} {a b:List ax} (hl:a.length < 1099511627776) (hn:a.length < n):sI n a b=some (decide (a=b)):=by
 have e:sI n a b=Ju n (fun x1 x2:ax=>!((x1.from_==(x2.from_:Int))&&((x1.to==(x2.to:Int))&&true))) a b:=by kernel_rfl
 rw[e];refine Et (fun x y=>?_) hl hn;obtain⟨a,b⟩:=x;obtain⟨c,d⟩:=y;simp only[ax.mk.injEq,Bool.and_true];rw[Bool.eq_iff_iff];simp
abbrev ltS (a b:ax):Bool:=decide (a.from_ < b.from_)
theorem JZ:Go.Sort.SWO ltS where
 irrefl x:=by simp[ltS]
 trans x y z h1 h2:=by simp only[ltS,decide_eq_true_eq]at *;omega
 ntrans x y z h1 h2:=by simp only[ltS,decide_eq_false_iff_not]at *;omega
instance:Inhabited ax:=⟨⟨0,0⟩⟩
theorem acX (n:Nat) (rc:List ax->Int->Int->Int->((ax×ax×Unit)->Option Int)->Option (List ax)) (φ:(ax×ax×Unit)->Option Int) (l:List ax) (a b d:Int):fH n rc l a b d φ=iA (fun x y=>φ (x,y,())) (fun r=>decide (r < 0)) aN aQ n (fun l a b d=>rc l a b d φ) l a b d:=by kernel_rfl
theorem Vd (n:Nat) (φ:(ax×ax×Unit)->Option Int):∀ m l a b d,bZ n m l a b d φ=fC (fun x y=>φ (x,y,())) (fun r=>decide (r < 0)) aN aQ n m l a b d
 | 0,l,a,b,d=>rfl
 |m+1,l,a,b,d=>by
  have e:(fun l a b d=>bZ n m l a b d φ)=fC (fun x y=>φ (x,y,())) (fun r=>decide (r < 0)) aN aQ n m:=by
   funext l a b d;exact Vd n φ m l a b d
  show fH n (bZ n m) l a b d φ=iA (fun x y=>φ (x,y,())) (fun r=>decide (r < 0)) aN aQ n (fC (fun x y=>φ (x,y,())) (fun r=>decide (r < 0)) aN aQ n m) l a b d;rw[<- e];exact acX n (bZ n m) φ l a b d
theorem F9 {n:Nat} {l:List ax} {φ:(ax×ax×Unit)->Option Int} (f:ax->ax->Int) (hφ:∀ x y,φ (x,y,())=some (f x y)) (hf:∀ x y,decide (f x y < 0)=ltS x y) (hl:l.length < 1099511627776) (hn:l.length < n):mF n l φ=some (wV ltS l):=by
 unfold mF kE;rw[kW (by omega),yX (by omega)];simp only[bind_some,aC,cond_true,Vd];rw[wW (lt:=ltS) JZ (f:=f) (q:=fun r=>decide (r < 0)) hφ hf aen aeo (by omega) hn hn];rfl
def mrg (out:List ax) (s:ax):List ax:=
 match out.getLast? with
 |some q=>bif decide (s.from_<=q.to)then out.dropLast++[⟨q.from_,max q.to s.to⟩]else out++[s]
 |none=>[s]
theorem Rq (out:List ax) (s:ax):(mrg out s).length<=out.length+1:=by
 unfold mrg;cases out.getLast? with
 |none=>simp
 |some q=>simp only;cases decide (s.from_<=q.to)<;>simp<;>omega
theorem aaS (o:List ax) (q s:ax):mrg (o++[q]) s=bif decide (s.from_<=q.to)then o++[⟨q.from_,max q.to s.to⟩]else o++[q]++[s]:=by simp[mrg]
abbrev OkS (s:ax):Prop:=s.from_ < s.to
def inS (l:List ax) (y:Int):Bool:=l.any fun s=>decide (s.from_<=y)&&decide (y < s.to)
def Can (l:List ax):Prop:=l.Pairwise (fun a b=>a.to < b.from_)∧∀ s∈l,OkS s
theorem jI (l:List ax) (y:Int):inS l y=true↔∃ s∈l,s.from_<=y∧y < s.to:=by simp[inS]
theorem lZ (l m:List ax) (y:Int):inS (l++m) y=(inS l y || inS m y):=by simp[inS]
theorem sP (y:Int):inS [] y=false:=rfl
theorem jW (s:ax) (l:List ax) (y:Int):inS (s::l) y=((decide (s.from_<=y)&&decide (y < s.to)) || inS l y):=by simp[inS]
theorem Rs {l m:List ax} (h:l.Perm m) (y:Int):inS l y=inS m y:=by
 rw[Bool.eq_iff_iff,jI,jI];exact⟨fun ⟨s,hs,h1⟩=>⟨s,h.mem_iff.1 hs,h1⟩,fun⟨s,hs,h1⟩=>⟨s,h.mem_iff.2 hs,h1⟩⟩
theorem vQ:Can []:=⟨List.Pairwise.nil,by simp⟩
theorem aep {out:List ax} {s:ax} (hc:Can out) (hs:OkS s) (hb:∀ o∈out,o.from_<=s.from_):
 Can (mrg out s)∧(∀ o∈mrg out s,o.from_<=s.from_)∧∀ y,inS (mrg out s) y=(inS out y || inS [s] y):=by
 rcases List.eq_nil_or_concat out with rfl |⟨o,q,rfl⟩
 ·refine⟨⟨by simp[mrg],by simp[mrg];exact hs⟩,by simp[mrg],fun y=>by simp[mrg,inS]⟩
 ·rw[List.concat_eq_append]at*;obtain⟨h1,h2⟩:=hc;rw[pairwise_append]at h1;obtain⟨p1,_,p3⟩:=h1;have hq:OkS q:=h2 q (by simp);have hqs:q.from_<=s.from_:=hb q (by simp);rw[aaS];by_cases hj:s.from_<=q.to
  ·simp only[hj,decide_true,cond_true];refine⟨⟨?_,?_⟩,?_,?_⟩
   ·rw[pairwise_append];refine⟨p1,by simp,fun a ha b hb'=>?_⟩;rw[mem_singleton]at hb';subst hb';exact p3 a ha q (by simp)
   ·intro a ha;rcases mem_append.1 ha with ha |ha
    ·exact h2 a (by simp[ha])
    ·rw[mem_singleton]at ha;subst ha;show q.from_ < max q.to s.to;have:q.from_ < q.to:=hq;omega
   ·intro a ha;rcases mem_append.1 ha with ha |ha
    ·exact hb a (by simp[ha])
    ·rw[mem_singleton]at ha;subst ha;exact hqs
   ·intro y;rw[lZ,lZ,Bool.or_assoc];congr 1;simp only[jW,sP,Bool.or_false];rw[Bool.eq_iff_iff];simp only[and_eq_true,Bool.or_eq_true,decide_eq_true_eq];have:q.from_ < q.to:=hq;have:s.from_ < s.to:=hs;omega
  ·simp only[hj,decide_false,cond_false];refine⟨⟨?_,?_⟩,?_,?_⟩
   ·rw[pairwise_append];refine⟨?_,by simp,fun a ha b hb'=>?_⟩
    ·rw[pairwise_append];exact⟨p1,by simp,p3⟩
    ·rw[mem_singleton]at hb';subst hb';rcases mem_append.1 ha with ha |ha
     ·have:=p3 a ha q (by simp);have:q.from_ < q.to:=hq;omega
     ·rw[mem_singleton]at ha;subst ha;omega
   ·intro a ha;rcases mem_append.1 ha with ha |ha
    ·exact h2 a ha
    ·rw[mem_singleton]at ha;subst ha;exact hs
   ·intro a ha;rcases mem_append.1 ha with ha |ha
    ·exact hb a ha
    ·rw[mem_singleton]at ha;subst ha;exact Int.le_refl _
   ·intro y;rw[lZ]
theorem Lr:∀ (l out:List ax),Can out->(∀ s∈l,OkS s)->l.Pairwise (fun x y=>x.from_<=y.from_)->(∀ o∈out,∀ s∈l,o.from_<=s.from_)->Can (l.foldl mrg out)∧∀ y,inS (l.foldl mrg out) y=(inS out y || inS l y)
 |[],out,hc,_,_,_=>⟨hc,fun y=>by simp[sP]⟩
 |s::l,out,hc,hv,hp,hb=>by
  rw[pairwise_cons]at hp;obtain⟨m1,m2,m3⟩:=aep hc (hv s (by simp)) (fun o ho=>hb o ho s (by simp));obtain⟨f1,f2⟩:=Lr l (mrg out s) m1 (fun t ht=>hv t (by simp[ht])) hp.2 (fun o ho t ht=>Int.le_trans (m2 o ho) (hp.1 t ht));refine⟨f1,fun y=>?_⟩;rw[foldl_cons,f2,m3,Bool.or_assoc,<- lZ];rfl
theorem YT {a:ax} {l:List ax} (h:Can (a::l)):Can l:=⟨(pairwise_cons.1 h.1).2,fun s hs=>h.2 s (by simp[hs])⟩
theorem F3 {a:ax} {l:List ax} (h:Can (a::l)) {y:Int} (hy:inS l y=true):a.to < y:=by
 obtain⟨s,hs,h1,_⟩:=(jI _ _).1 hy;have:=(pairwise_cons.1 h.1).1 s hs;omega
theorem Ve {a:ax} {l:List ax} (h:Can (a::l)) {y:Int} (hy:inS (a::l) y=true):a.from_<=y:=by
 rw[jW,Bool.or_eq_true]at hy;rcases hy with hy |hy
 ·simp only[and_eq_true,decide_eq_true_eq]at hy;exact hy.1
 ·have:=F3 h hy;have:a.from_ < a.to:=h.2 a (by simp);omega
theorem l5:∀ {l m:List ax},Can l->Can m->(∀ y,inS l y=inS m y)->l=m
 |[],[],_,_,_=>rfl
 |[],b::m,_,hm,h=>by
  have:=h b.from_;have hb:b.from_ < b.to:=hm.2 b (by simp);rw[sP,jW]at this;simp[hb]at this
 |a::l,[],hl,_,h=>by
  have:=h a.from_;have ha:a.from_ < a.to:=hl.2 a (by simp);rw[sP,jW]at this;simp[ha]at this
 |a::l,b::m,hl,hm,h=>by
  have ha:a.from_ < a.to:=hl.2 a (by simp);have hb:b.from_ < b.to:=hm.2 b (by simp);have ina:inS (a::l) a.from_=true:=by rw[jW];simp[ha]
  have inb':inS (b::m) b.from_=true:=by rw[jW];simp[hb]
  have e1:a.from_=b.from_:=by
   have h1:=Ve hm (by rw[<- h];exact ina);have h2:=Ve hl (by rw[h];exact inb');omega
  have nl:∀ (c:ax) (k:List ax),Can (c::k)->inS (c::k) c.to=false:=by
   intro c k hk;cases hc:inS (c::k) c.to with
   |false=>rfl
   |true=>
    rw[jW,Bool.or_eq_true]at hc;rcases hc with hc |hc
    ·simp at hc
    ·have:=F3 hk hc;omega
  have e2:a.to=b.to:=by
   rcases Int.lt_trichotomy a.to b.to with hlt |he |hlt
   ·have h1:=nl a l hl;rw[h,jW]at h1;simp only[Bool.or_eq_false_iff,Bool.and_eq_false_iff,decide_eq_false_iff_not]at h1;omega
   ·exact he
   ·have h1:=nl b m hm;rw[<- h,jW]at h1;simp only[Bool.or_eq_false_iff,Bool.and_eq_false_iff,decide_eq_false_iff_not]at h1;omega
  have e:a=b:=by cases a;cases b;simp only at e1 e2;rw[e1,e2]
  subst e;rw[l5 (YT hl) (YT hm) fun y=>?_];have hy:=h y;rw[jW,jW]at hy;cases h1:inS l y with
  |true=>
   have:=F3 hl h1;have z:(decide (a.from_<=y)&&decide (y < a.to))=false:=(by rw[Bool.and_eq_false_iff,decide_eq_false_iff_not,decide_eq_false_iff_not];omega);rw[z,h1,Bool.false_or,Bool.false_or]at hy;rw[<- hy]
  |false=>
   cases h2:inS m y with
   |false=>rfl
   |true=>
    have:=F3 hm h2;have z:(decide (a.from_<=y)&&decide (y < a.to))=false:=(by rw[Bool.and_eq_false_iff,decide_eq_false_iff_not,decide_eq_false_iff_not];omega);rw[z,h1,h2]at hy;simp at hy
def WS (l:List ax):List ax:=(iw ltS l).foldl mrg []
theorem aer {l:List ax} (h:l.Pairwise fun x y=>ltS y x=false):l.Pairwise fun x y=>x.from_<=y.from_:=
 h.imp fun {x y} hxy=>by simp only[ltS,decide_eq_false_iff_not]at hxy;omega
theorem Ls {l:List ax} (h:∀ s∈l,OkS s):Can (WS l)∧∀ y,inS (WS l) y=inS l y:=by
 have hp:=Rp ltS l;obtain⟨h1,h2⟩:=Lr (iw ltS l) [] vQ (fun s hs=>h s (hp.mem_iff.1 hs)) (aer (isort_sorted JZ l)) (by simp);exact⟨h1,fun y=>by rw[WS,h2,sP,Bool.false_or,Rs hp]⟩
theorem acY {l:List ax} (h:∀ s∈l,OkS s):(wV ltS l).foldl mrg []=WS l:=by
 have hp:=Cg JZ l;obtain⟨h1,h2⟩:=Lr (wV ltS l) [] vQ (fun s hs=>h s (hp.mem_iff.1 hs)) (aer (Ch JZ l)) (by simp);obtain⟨h3,h4⟩:=Ls h;exact l5 h1 h3 fun y=>by rw[h2,sP,Bool.false_or,Rs hp,h4]
theorem YU (l:List ax):(WS l).length<=l.length:=by
 have:∀ (ys out:List ax),(ys.foldl mrg out).length<=out.length+ys.length:=by
  intro ys
  induction ys with
  |nil=>intro out;simp
  |cons y ys ih=>
   intro out;simp only[foldl_cons,length_cons];have:=ih (mrg out y);have:=Rq out y;omega
 have h:=this (iw ltS l) [];rw[bC]at h;simpa[WS]using h
abbrev OkR (r:aj):Bool:=decide (0<=r.x0)&&(decide (r.x0 < r.x1)&&(decide (r.x1<=1048576)&&(decide (0<=r.y0)&&(decide (r.y0 < r.y1)&&decide (r.y1<=1048576)))))
theorem Lu (a b:Bool):(bif a then some b else some false)=some (a&&b):=by cases a<;>rfl
theorem rC (r:aj):vF r=some (OkR r):=by simp only[vF,Lu]
def bI (l:List aj) (x:Int):List ax:=(l.filter fun r=>decide (r.x0<=x)&&decide (x < r.x1)).map fun r=>⟨r.y0,r.y1⟩
def aL (l:List aj) (x:Int):List ax:=WS (bI l x)
theorem xw (l:List aj) (x:Int):(bI l x).length<=l.length:=by simp only[bI,length_map];exact length_filter_le _ _
theorem qx (l:List aj) (x:Int):(aL l x).length<=l.length:=
 Nat.le_trans (YU _) (xw l x)
theorem agY {r:aj} (h:OkR r=true):r.y0 < r.y1:=by simp only[OkR,and_eq_true,decide_eq_true_eq]at h;omega
theorem HV {l:List aj} (h:∀ r∈l,OkR r=true) (x:Int):∀ s∈bI l x,OkS s:=by
 intro s hs;simp only[bI,mem_map,mem_filter]at hs;obtain⟨r,⟨hr,_⟩,rfl⟩:=hs;exact agY (h r hr)
theorem Lv {l:List aj} {x:Int} (hl:l.length < 1099511627776) {n:Nat} (hn:l.length < n):iter (qa l x) n ((0:Int),([]:List ax))=some (bI l x):=by
 have:=bD (l:=l) (step:=qa l x) (fun i (s:List ax)=>((i:Int),s)) (fun r s=>bif decide (r.x0<=x)&&decide (x < r.x1)then s++[⟨r.y0,r.y1⟩]else s) (fun s=>s) (fun i s=>s.length<=i)
  (fun i hi s hs=>?_) (fun s hs=>by simp[qa]) n hn [] (Nat.le_refl _)
 ·rw[show ((0:Nat):Int)=0 from rfl]at this;rw[this];congr 1;have gen:∀ (ys:List aj) (s:List ax),ys.foldl (fun s r=>bif decide (r.x0<=x)&&decide (x < r.x1)then s++[⟨r.y0,r.y1⟩]else s) s=s++bI ys x:=by
   intro ys
   induction ys with
   |nil=>intro s;simp[bI]
   |cons y ys ih=>
    intro s;simp only[foldl_cons,ih];cases h:(decide (y.x0<=x)&&decide (x < y.x1))with
    |true=>simp[bI,h]
    |false=>simp[bI,h]
  simpa using gen l []
 ·have hi':decide (((i:Nat):Int) < (l.length:Int))=true:=by simpa using hi
  have ap:bq s.length s.length (sub ([(ax.mk l[i].y0 l[i].y1)]:List ax) 0 1).length 1 16=true:=bf (n:=1) (by omega) (by simp only[maxLen];omega);simp only[qa,hi',cond_true,bn hi,bind_some,Lu];cases h:(decide (l[i].x0<=x)&&decide (x < l[i].x1))with
  |true=>
   simp only[cond_true,ap,dw,aC,bind_some];refine⟨?_,by simp;omega⟩;rw[ay (by omega)];rfl
  |false=>
   simp only[cond_false,aC,cond_true,bind_some];exact⟨by rw[ay (by omega)],by omega⟩
theorem Lx {n:Nat} (w1 r2:List ax) (hw:w1.length=r2.length) (hl:r2.length < 1099511627776) (hn:r2.length < n):iter (qb w1 r2) n ((0:Int),([]:List ax))=some (r2.foldl mrg []):=by
 have:=bD (l:=r2) (step:=qb w1 r2) (fun i (s:List ax)=>((i:Int),s)) (fun r s=>mrg s r) (fun s=>s) (fun i s=>s.length<=i)
  (fun i hi s hs=>?_) (fun s hs=>by simp[qb,hw]) n hn [] (Nat.le_refl _)
 ·rw[show ((0:Nat):Int)=0 from rfl]at this;exact this
 ·refine⟨?_,by have:=Rq s r2[i];omega⟩;have hi':decide (((i:Nat):Int) < ((w1.length:Nat):Int))=true:=by simp;omega
  have ib:inb (i:Int) w1.length=true:=aZ (by omega);have ap:bq s.length s.length (sub ([r2[i]]:List ax) 0 1).length 1 16=true:=bf (n:=1) (by omega) (by simp only[maxLen];omega);simp only[qb,hi',cond_true,ib,bL hi,bind_some];rcases List.eq_nil_or_concat s with rfl |⟨s0,q,hsq⟩
  ·have d0:decide (((([]:List ax).length:Nat):Int)>0)=false:=(by simp);simp only[d0,cond_false,bind_some,ap,cond_true,dw,aC];rw[ay (by omega)];rfl
  ·rw[List.concat_eq_append]at hsq;subst hsq;have d0:decide (((((s0++[q]).length:Nat):Int))>0)=true:=(by simp<;>omega);have lenq:(s0++[q]).length=s0.length+1:=(by simp);have wp:i64.wrap ((((s0++[q]).length:Nat):Int) - 1)=((s0.length:Nat):Int):=(by rw[gV (by simp) (by omega),lenq];rfl);have ib2:inb ((s0.length:Nat):Int) (s0++[q]).length=true:=aZ (by omega);have g:at? (s0++[q]) (((0:Nat):Int)+((s0.length:Nat):Int))=some q:=(by rw[ow];simp);have z:(((0:Nat):Int)+((s0.length:Nat):Int)).toNat=s0.length:=(by simp);have st:(s0++[q]).set s0.length (ax.mk q.from_ (max q.to r2[i].to))=s0++[⟨q.from_,max q.to r2[i].to⟩]:=(by simp);have m:mrg (s0++[q]) r2[i]=bif decide (r2[i].from_<=q.to)then s0++[⟨q.from_,max q.to r2[i].to⟩]else s0++[q]++[r2[i]]:=(by simp[mrg]);simp only[d0,cond_true,wp,ib2,g,bind_some,m,z,st];cases decide (r2[i].from_<=q.to)with
   |true=>
    have e:eqL (s0++[q]).length (s0++[(⟨q.from_,max q.to r2[i].to⟩:ax)]).length=true:=(by simp);simp only[cond_true,e,bind_some,aC];rw[ay (by omega)]
   |false=>
    simp only[cond_false,ap,cond_true,dw,aC,bind_some];rw[ay (by omega)];rfl
theorem WT {n:Nat} {l:List aj} {x:Int} (hv:∀ r∈l,OkR r=true) (hl:l.length < 1099511627776) (hn:l.length < n):FV n l x=some (aL l x):=by
 have h1:=xw l x;have h2:(wV ltS (bI l x)).length=(bI l x).length:=JC JZ _;unfold FV;simp only[length_nil,aC,cond_true,Lv (x:=x) (l:=l) (by omega) (n:=n) (by omega),bind_some];rw[F9 (fun a b=>if a.from_ < b.from_ then -1 else if b.from_ < a.from_ then 1 else 0) (fun a b=>by show vJ a b=_;unfold vJ;rw[iE];rfl) (fun a b=>by
  by_cases h1:a.from_ < b.from_
  ·simp[h1]
  ·by_cases h2:b.from_ < a.from_<;>simp[h1,h2]) (by omega) (by omega)]
 simp only[bind_some];rw[Lx _ _ h2.symm (by omega) (by omega)];simp only[bind_some,bB,aC,cond_true];rw[acY (HV hv x)];rfl
def aK (l:List aj):List Int:=aaH (l.flatMap fun r=>[r.x0,r.x1])
def dN {α:Type} (f:Int->Int->α):List Int->List α
 |a::b::l=>f a b::dN f (b::l)
 |_=>[]
def aD (l:List aj):List aF:=dN (fun a b=>⟨a,b,aL l a⟩) (aK l)
theorem kJ {α:Type} (f:Int->Int->α):∀ (l:List Int),(dN f l).length=l.length - 1∧∀ i (h:i+1 < l.length) (h':i < (dN f l).length),(dN f l)[i]=f l[i] l[i+1]
 |[]=>⟨rfl,fun i h=>by simp at h⟩
 |[a]=>⟨rfl,fun i h=>by simp at h⟩
 |a::b::l=>by
  obtain⟨h1,h2⟩:=kJ f (b::l);refine⟨by simp only[dN,length_cons,h1];simp,fun i h h'=>?_⟩;cases i with
  |zero=>rfl
  |succ i=>
   simp only[dN,List.getElem_cons_succ];exact h2 i (by simpa using h) _
theorem jk (l:List aj):(l.flatMap fun r=>[r.x0,r.x1]).length=2*l.length:=by
 induction l with
 |nil=>rfl
 |cons x l ih=>simp only[List.flatMap_cons,length_append,ih,length_cons,length_nil];omega
theorem kT (l:List Int):(dS l).length<=l.length:=by
 match l with
 |[]=>simp[dS]
 |[x]=>simp[dS]
 |x::y::l=>
  have:=kT (y::l);simp only[dS];cases x==y<;>simp at* <;>omega
theorem zC (l:List aj):(aK l).length<=2*l.length:=by
 have h:=kT (iw (fun a b=>decide (a < b)) (l.flatMap fun r=>[r.x0,r.x1]));rw[bC,jk]at h;exact h
theorem LA {n:Nat} {l:List aj} (hl:l.length < 10995116277) (hn:l.length < n):iter (qc l) n ((0:Int),([]:List Int))=some (l.flatMap fun r=>[r.x0,r.x1]):=by
 have:=bD (l:=l) (step:=qc l) (fun i (s:List Int)=>((i:Int),s)) (fun r s=>s++[r.x0,r.x1]) (fun s=>s) (fun i s=>s.length<=2*i)
  (fun i hi s hs=>?_) (fun s hs=>by simp[qc]) n hn [] (Nat.le_refl _)
 ·rw[show ((0:Nat):Int)=0 from rfl]at this;rw[this];have gen:∀ (ys:List aj) (s:List Int),ys.foldl (fun s r=>s++[r.x0,r.x1]) s=s++ys.flatMap fun r=>[r.x0,r.x1]:=by
   intro ys
   induction ys with
   |nil=>intro s;simp
   |cons y ys ih=>intro s;simp[ih]
  congr 1;simpa using gen l []
 ·have hi':decide (((i:Nat):Int) < ((l.length:Nat):Int))=true:=by simpa using hi
  have ap:bq s.length s.length (sub ([l[i].x0,l[i].x1]:List Int) 0 2).length 2 8=true:=bf (n:=2) (by omega) (by simp only[maxLen];omega);simp only[qc,hi',cond_true,aZ hi,bL hi,bind_some,ap,dw,aC];refine⟨?_,by simp;omega⟩;rw[ay (by omega)];rfl
theorem vR {n:Nat} {ls:List (List aj)} (hv:∀ r∈ls.flatten,OkR r=true) (hl:ls.flatten.length < 10995116277) (hls:ls.length < 1099511627776) (hn:2*ls.flatten.length < n) (hn2:ls.length < n):kY n ls=some (aD ls.flatten):=by
 unfold kY;rw[JY (by omega) hls hn2];generalize ls.flatten=l at*;have he:=zC l;simp only[bind_some,length_nil,aC,cond_true,LA (l:=l) (n:=n) (by omega) (by omega)];rw[jV (by rw[jk];omega) (by rw[jk];omega)];simp only[bind_some,bC,aC,cond_true];rw[ji (by rw[bC,jk];omega) (by rw[bC,jk];omega)];simp only[bind_some];have hE:dS (iw ltI (l.flatMap fun r=>[r.x0,r.x1]))=aK l:=rfl;rw[hE];obtain⟨p1,p2⟩:=kJ (fun a b=>(⟨a,b,aL l a⟩:aF)) (aK l);have key:iter (qd n l ((),aK l)) n ((1:Int),([]:List aF))=some (aD l):=by
  have:=fG (step:=qd n l ((),aK l)) (fun i=>(((i+1:Nat):Int),(aD l).take i)) (aD l).length (aD l) (fun i hi=>?_) ?_ n (by unfold aD;omega)
  ·simpa using this
  ·have hi2:i+1 < (aK l).length:=(by unfold aD at hi;omega);have d:decide (((i+1:Nat):Int) < (((aK l).length:Nat):Int))=true:=(by simp;omega);have wp:i64.wrap (((i+1:Nat):Int) - 1)=((i:Nat):Int):=(by rw[gV (by omega) (by omega)];rfl);have ap:bq ((aD l).take i).length ((aD l).take i).length (sub ([(aF.mk ((aK l)[i]'(by omega)) (aK l)[i+1] (aL l ((aK l)[i]'(by omega))))]:List aF) 0 1).length 1 40=true:=by
    refine bf (n:=1) ?_ ?_
    ·rw[length_take];unfold aD;omega
    ·rw[length_take];unfold aD;simp only[maxLen];omega
   have tk:(aD l).take (i+1)=(aD l).take i++[⟨(aK l)[i]'(by omega),(aK l)[i+1],aL l ((aK l)[i]'(by omega))⟩]:=by
    rw[take_succ_eq_append_getElem hi];congr 2;exact p2 i hi2 hi
   simp only[qd,d,cond_true,wp,aZ (show i < (aK l).length by omega),bL (show i < (aK l).length by omega),bind_some,aZ hi2,bL hi2,bB,aC,WT (l:=l) (n:=n) hv (by omega) (by omega),ap,dw];rw[ay (by omega),tk];rfl
  ·have d:decide ((((aD l).length+1:Nat):Int) < (((aK l).length:Nat):Int))=false:=(by unfold aD;simp;omega);simp only[qd,d,cond_false,List.take_length,aC,cond_true]
 rw[key];simp only[bind_some,bB,aC,cond_true]
def aA (x0 x1:Int) (c:List ax):List aj:=c.map fun q=>⟨x0,q.from_,x1,q.to⟩
def xR (x0 x1:Int) (c:List ax):List aF->List aj
 |[]=>aA x0 x1 c
 |s::l=>if s.column=c then xR x0 s.x1 c l else aA x0 x1 c++xR s.x0 s.x1 s.column l
def aR:List aF->List aj
 |[]=>[]
 |s::l=>xR s.x0 s.x1 s.column l
theorem Vf (x0:Int) (c:List ax):∀ (l:List aF) (x1:Int) (k:Nat) (hk:k<=l.length),(∀ j (hj:j < k),(l[j]'(by omega)).column=c)->(∀ h:k < l.length,l[k].column≠c)->
 xR x0 x1 c l=aA x0 (if h:0 < k then (l[k - 1]'(by omega)).x1 else x1) c++aR (l.drop k)
 |l,x1,0,_,_,h2=>by
  cases l with
  |nil=>simp[xR,aR]
  |cons s l=>
   have:=h2 (by simp);simp only[List.getElem_cons_zero]at this;simp[xR,aR,this]
 |[],x1,k+1,hk,_,_=>by simp at hk
 |s::l,x1,k+1,hk,h1,h2=>by
  have e0:=h1 0 (by omega);simp only[List.getElem_cons_zero]at e0;simp only[xR,e0,if_true];rw[Vf x0 c l s.x1 k (by simpa using hk) (fun j hj=>by have:=h1 (j+1) (by omega);simpa using this) (fun h=>by have:=h2 (by simpa using h);simpa using this)];simp only[List.drop_succ_cons];congr 2;by_cases hk0:0 < k
  ·simp only[hk0,dite_true,Nat.zero_lt_succ,Nat.add_sub_cancel];obtain⟨m,rfl⟩:∃ m,k=m+1:=⟨k - 1,by omega⟩;simp
  ·have:k=0:=(by omega);subst this;simp
theorem GA (l:List aF) (b:Nat) (h:∀ s∈l,s.column.length<=b):(aR l).length<=l.length*b:=by
 have go:∀ (l:List aF) (x0 x1:Int) (c:List ax),c.length<=b->(∀ s∈l,s.column.length<=b)->(xR x0 x1 c l).length<=(l.length+1)*b:=by
  intro l
  induction l with
  |nil=>intro x0 x1 c hc _;simp only[xR,aA,length_map,length_nil];omega
  |cons s l ih=>
   intro x0 x1 c hc hl;simp only[xR];split
   ·have:=ih x0 s.x1 c hc (fun t ht=>hl t (mem_cons_of_mem _ ht));simp only[length_cons,Nat.add_mul]at*;omega
   ·have:=ih s.x0 s.x1 s.column (hl s (by simp)) (fun t ht=>hl t (mem_cons_of_mem _ ht));simp only[length_append,aA,length_map,length_cons,Nat.add_mul]at*;omega
 cases l with
 |nil=>simp[aR]
 |cons s l=>
  simp only[aR];exact go l _ _ _ (h s (by simp)) (fun t ht=>h t (mem_cons_of_mem _ ht))
theorem Og {n:Nat} {l:List aF} {i k:Nat} (hi:i < l.length) (hk1:0 < k) (hk:k<=l.length) (hl:l.length < 10995116277) (x3:aF) (out:List aj) (ho:out.length < 1099511627776) (hc:x3.column.length < 1099511627776) (hn:x3.column.length < n):
 iter (tN l (i:Int) (k:Int) x3) n ((0:Int),out)=some (out++aA l[i].x0 (l[k - 1]'(by omega)).x1 x3.column):=by
 have:=bD (l:=x3.column) (step:=tN l (i:Int) (k:Int) x3) (fun j (s:List aj)=>((j:Int),s)) (fun q s=>s++[⟨l[i].x0,q.from_,(l[k - 1]'(by omega)).x1,q.to⟩]) (fun s=>s) (fun j s=>s.length<=out.length+j)
  (fun j hj s hs=>?_) (fun s hs=>by simp[tN]) n hn out (Nat.le_refl _)
 ·rw[show ((0:Nat):Int)=0 from rfl]at this;rw[this];have gen:∀ (ys:List ax) (s:List aj),ys.foldl (fun s q=>s++[⟨l[i].x0,q.from_,(l[k - 1]'(by omega)).x1,q.to⟩]) s=s++aA l[i].x0 (l[k - 1]'(by omega)).x1 ys:=by
   intro ys
   induction ys with
   |nil=>intro s;simp[aA]
   |cons y ys ih=>intro s;simp only[foldl_cons,ih];simp[aA]
  rw[gen]
 ·have hj':decide (((j:Nat):Int) < (x3.column.length:Int))=true:=by simpa using hj
  have wp:i64.wrap ((k:Int) - 1)=((k - 1:Nat):Int):=gV hk1 (by omega);have ap:bq s.length s.length (sub ([(aj.mk l[i].x0 (x3.column[j]).from_ (l[k - 1]'(by omega)).x1 (x3.column[j]).to)]:List aj) 0 1).length 1 32=true:=bf (n:=1) (by omega) (by simp only[maxLen];omega);simp only[tN,hj',cond_true,bn hj,bn hi,wp,bn (show k - 1 < l.length by omega),bind_some,ap,dw,aC];refine⟨?_,by simp;omega⟩;rw[ay (by omega)];rfl
theorem Nw {n:Nat} {l:List aF} {b:Nat} (hb:b<=100000) (hl:l.length<=100000) (hc:∀ s∈l,s.column.length<=b) (hn:b < n) (hn2:l.length < n):EJ n l=some (aR l):=by
 unfold EJ;simp only[length_nil,aC,cond_true];have main:∀ (m i:Nat) (out:List aj) (k:Nat),i+m=l.length->m < k->out.length<=i*b->iter (tO n l) k ((i:Int),out)=some (out++aR (l.drop i)):=by
  intro m
  induction m using Nat.strongRecOn with
  |ind m ih=>
   intro i out k him hk ho;obtain⟨k,rfl⟩:∃ j,k=j+1:=⟨k - 1,by omega⟩;by_cases hm:m=0
   ·subst hm;have:i=l.length:=(by omega);subst this;refine aW ?_;simp[tO,aR]
   ·have hi:i < l.length:=(by omega);have di:decide (((i:Nat):Int) < (l.length:Int))=true:=(by simpa using hi);obtain⟨q,hq1,hq2,hq3,hq4⟩:∃ q,i < q∧q<=l.length∧(∀ j,i < j->j < q->∀ h:j < l.length,l[j].column=l[i].column)∧(∀ h:q < l.length,l[q].column≠l[i].column):=by
     rcases zx (fun j=>if h:j < l.length then decide (l[j].column≠l[i].column)else false) (i+1) l.length with ⟨q,h1,h2,h3,h4⟩ |h
     ·simp only[h2,dite_true,decide_eq_true_eq]at h3;refine⟨q,by omega,by omega,fun j hj1 hj2 hj=>?_,fun _=>h3⟩;have:=h4 j (by omega) hj2;simp only[hj,dite_true,decide_eq_false_iff_not,ne_eq,Decidable.not_not]at this;exact this
     ·refine⟨l.length,hi,Nat.le_refl _,fun j hj1 hj2 hj=>?_,fun h=>by omega⟩;have:=h j (by omega) hj;simp only[hj,dite_true,decide_eq_false_iff_not,ne_eq,Decidable.not_not]at this;exact this
    have cl:∀ j (hj:j < l.length),l[j].column.length<=b:=fun j hj=>hc _ (getElem_mem hj);have r2:iter (pF n l (i:Int)) n (i64.wrap ((i:Int)+1))=some (q:Int):=by
     rw[ay (by omega)];have:=fG (step:=pF n l (i:Int)) (fun j=>((i+1+j:Nat):Int)) (q - (i+1)) (q:Int) (fun j hj=>?_) ?_ n (by omega)
     ·simpa using this
     ·have hjl:i+1+j < l.length:=(by omega);have dj:decide (((i+1+j:Nat):Int) < (l.length:Int))=true:=(by simp;omega);have hcc:=cl (i+1+j) hjl;simp only[pF,dj,cond_true,bn hjl,bn hi,bind_some];rw[A7 (by omega) (by omega),hq3 (i+1+j) (by omega) (by omega) hjl];simp only[decide_true,bind_some,cond_true];rw[ay (by omega)];rfl
     ·rw[show i+1+(q - (i+1))=q by omega];by_cases hql:q < l.length
      ·have dj:decide (((q:Nat):Int) < (l.length:Int))=true:=(by simpa using hql);have hcc:=cl q hql;simp only[pF,dj,cond_true,bn hql,bn hi,bind_some];rw[A7 (by omega) (by omega)];simp[hq4 hql]
      ·have dj:decide (((q:Nat):Int) < (l.length:Int))=false:=(by simp;omega);simp only[pF,dj,cond_false,bind_some]
    have ob:i*b<=100000*100000:=Nat.mul_le_mul (by omega) hb;have hci:=cl i hi;have r3:=Og (n:=n) hi (show 0 < q by omega) hq2 (by omega) l[i] out (by omega) (by omega) (by omega);have step:tO n l ((i:Int),out)=some (.inl ((q:Int),out++aA l[i].x0 (l[q - 1]'(by omega)).x1 l[i].column)):=(by simp only[tO,di,cond_true,r2,bn hi,bind_some,aC,r3]);rw[bU step,ih (l.length - q) (by omega) q _ k (by omega) (by omega) (by
     rw[length_append,aA,length_map];have:(i+1)*b<=q*b:=Nat.mul_le_mul_right _ (by omega);rw[Nat.add_mul]at this;omega)]
    rw[append_assoc];congr 2
    conv=>rhs;rw[drop_eq_getElem_cons hi]
    simp only[aR];rw[Vf l[i].x0 l[i].column (l.drop (i+1)) l[i].x1 (q - (i+1)) (by rw[length_drop];omega) (fun j hj=>by
     rw[getElem_drop];exact hq3 _ (by omega) (by omega) (by omega)) (fun h=>by
     rw[length_drop]at h;rw[getElem_drop];have:=hq4 (by omega);have hqq:i+1+(q - (i+1))=q:=(by omega);simp only[hqq];exact this)]
    rw[List.drop_drop,show i+1+(q - (i+1))=q by omega];congr 2;by_cases h0:0 < q - (i+1)
    ·simp only[h0,dite_true,getElem_drop];congr 2;omega
    ·simp only[h0,dite_false];have:q - 1=i:=(by omega);congr 2
 have:=main l.length 0 [] n (by omega) (by omega) (by simp);simp only[Int.natCast_zero,nil_append,List.drop_zero]at this;rw[this];simp
def ofL (l:List aj):List aj×Int:=
 if l.all OkR then (if l.length>400 then ([],6)else if (aR (aD l)).length>200 then ([],6)else (aR (aD l),0))else ([],1)
def rightL (l:List aj):Bool:=decide ((ofL l).2=0)&&decide ((ofL l).1=l)
theorem Ny {l:List aj} {s:aF} (h:s∈aD l):s.column.length<=l.length:=by
 obtain⟨i,hi,rfl⟩:=List.getElem_of_mem h;obtain⟨p1,p2⟩:=kJ (fun a b=>(⟨a,b,aL l a⟩:aF)) (aK l);have:(aD l)[i]=⟨(aK l)[i]'(by unfold aD at hi;omega),(aK l)[i+1]'(by unfold aD at hi;omega),aL l ((aK l)[i]'(by unfold aD at hi;omega))⟩:=p2 i (by unfold aD at hi;omega) hi;rw[this];exact qx l _
theorem qy (l:List aj):(aD l).length<=2*l.length:=by
 obtain⟨p1,_⟩:=kJ (fun a b=>(⟨a,b,aL l a⟩:aF)) (aK l);have:=zC l;unfold aD;omega
theorem aes {n:Nat} {l:List aj} (hl:l.length < 1099511627776) (hl2:l.length < n) (hn:1000<=n):ab2 n l=some (ofL l):=by
 unfold ab2;have h1:=rz (l:=l) (step:=JN l) (fun i=>(i:Int)) (fun r=>!OkR r) () (fun _=>(([]:List aj),(1:Int))) (fun i hi=>?_) ?_ n (by omega)
 ·rw[show ((0:Nat):Int)=0 from rfl]at h1;rw[h1];have h2:=pX (fun r=>!OkR r) l;cases hf:pq (fun r=>!OkR r) l with
  |some i=>
   rw[hf]at h2;have:l.all OkR=false:=by
    rw[<- Bool.not_eq_true,all_eq_true];intro hall;have h3:=h2.symm;simp only[Option.isSome_some,any_eq_true]at h3;obtain⟨x,hx,hx2⟩:=h3;rw[hall x hx]at hx2;cases hx2
   simp[ofL,this]
  |none=>
   rw[hf]at h2;have:l.all OkR=true:=by
    rw[all_eq_true];intro x hx;cases h:OkR x with
    |true=>rfl
    |false=>
     have:l.any (fun r=>!OkR r)=true:=any_eq_true.2 ⟨x,hx,by rw[h];rfl⟩;rw[this]at h2;cases h2
   have hv:∀ r∈l,OkR r=true:=all_eq_true.1 this;by_cases h400:l.length>400
   ·have d4:decide ((l.length:Int)>400)=true:=(by simp;omega);simp only[gW,d4,cond_true,ofL,this,if_true,if_pos h400]
   have d4:decide ((l.length:Int)>400)=false:=(by simp;omega);have ls:=qy l;simp only[gW,d4,cond_false];have fl:[l].flatten=l:=(by simp);rw[show (sub ([l]:List (List aj)) 0 1)=[l]from rfl,vR (ls:=[l]) (by rw[fl];exact hv) (by rw[fl];omega) (by simp) (by rw[fl];omega) (by simp;omega),fl];simp only[List.length_singleton,aC,cond_true,bind_some,bB];rw[Nw (b:=400) (by omega) (by omega) (fun s hs=>Nat.le_trans (Ny hs) (by omega)) (by omega) (by omega)];simp only[bind_some,bB,aC,cond_true,xg,ofL,this,if_true,if_neg h400];by_cases h200:(aR (aD l)).length>200
   ·have:decide (((aR (aD l)).length:Int)>200)=true:=(by simp;omega);simp only[this,cond_true,bind_some,h200,if_true]
   ·have:decide (((aR (aD l)).length:Int)>200)=false:=(by simp;omega);simp only[this,cond_false,bind_some,h200,if_false]
 ·have hi':decide (((i:Nat):Int) < (l.length:Int))=true:=by simpa using hi
  simp only[JN,hi',cond_true,bn hi,bind_some,rC];cases OkR l[i]with
  |false=>rfl
  |true=>simp only[Bool.not_true,cond_false];rw[ay (by omega)]
 ·simp[JN]
theorem l6 {n:Nat} {l:List aj} (hl:l.length < 1099511627776) (hl2:l.length < n) (hn:1000<=n):lW n l=some (rightL l):=by
 unfold lW rightL;rw[aes hl hl2 hn];simp only[bind_some];by_cases h:(ofL l).2=0
 ·have e:((ofL l).2==0)=true:=by simp[h]
  have lo:(ofL l).1.length<=200:=by
   unfold ofL;split
   ·split
    ·simp
    ·split
     ·simp
     ·simp;omega
   ·simp
  by_cases hlen:(ofL l).1.length < n
  ·simp only[e,cond_true,h,decide_true,Bool.true_and];rw[Lp (by omega) hlen];rfl
  ·have:(ofL l).1.length≠l.length:=(by omega);have hne:(ofL l).1≠l:=fun e=>this (by rw[e]);simp only[e,cond_true,h,decide_true,Bool.true_and];unfold kZ;have hb:(((ofL l).1.length:Int) != (l.length:Int))=true:=(by simp;omega);rw[hb];simp[hne]
 ·have e:((ofL l).2==0)=false:=by simp[h]
  simp[e,h]
theorem nJ {α:Type} (c:Bool) (a b:α):(bif c then some a else some b)=some (bif c then a else b):=by cases c<;>rfl
theorem Vg (i n:Nat):Int.tmod (i:Int) (n:Int)=((i%n:Nat):Int):=by rw[Int.tmod_eq_emod_of_nonneg (by omega)];omega
theorem bJ {i n:Nat} (h:i < n):decide ((i:Int) < ((n:Nat):Int))=true:=by simpa using h
theorem nZ (n:Nat):decide ((n:Int) < ((n:Nat):Int))=false:=by simp
theorem afs {k b:Nat} (h:k*b<=140737488355328) (h2:k<=maxLen):K5 (k:Int) b=true:=by
 have e:((k:Int)).toNat=k:=by omega
 simp only[K5,and_eq_true,decide_eq_true_eq,e];exact⟨⟨by omega,h⟩,h2⟩
def ptA (p:List bM) (i:Nat):bM:=p.getD i ⟨0,0⟩
def fP (p:List bM) (i:Nat):fV:=⟨(ptA p i).x,(ptA p i).y,(ptA p ((i+1)%p.length)).x,(ptA p ((i+1)%p.length)).y⟩
def dV (p:List bM):List fV:=(List.range p.length).map (fP p)
theorem O9 {p:List bM} {i:Nat} (h:i < p.length):ptA p i=p[i]:=by simp[ptA,h]
theorem bW (p:List bM):(dV p).length=p.length:=by simp[dV]
theorem xA {p:List bM} {i:Nat} (h:i < (dV p).length):(dV p)[i]=fP p i:=by simp[dV]
theorem Rt {α:Type} (A B:List α) (z x:α):(A++z::B).set A.length x=A++x::B:=by rw[set_append_right _ _ (Nat.le_refl _),Nat.sub_self];rfl
theorem yY {n:Nat} {p:List bM} (hl:p.length<=100000) (hn:p.length < n):lX n p=some (dV p):=by
 unfold lX;have mk:K5 ((p.length:Nat):Int) 32=true:=afs (by omega) (by show p.length<=2 ^ 63 - 1;omega);have main:=fG (step:=lG p) (fun i=>(((i:Nat):Int),(List.range i).map (fP p)++List.replicate (p.length - i) (fV.mk 0 0 0 0))) p.length (dV p) (fun i hi=>?_) ?_ n hn
 ·have z:(((p.length:Nat):Int)).toNat=p.length:=by omega
  simp only[List.range_zero,List.map_nil,nil_append,Nat.sub_zero]at main;have d1:decide (((p.length:Nat):Int)<=((p.length:Nat):Int))=true:=by simp
  have d2:decide ((0:Int)<=((p.length:Nat):Int))=true:=by simp
  rw[mk,d1,d2,z];simp only[Bool.and_self,cond_true];rw[show ((0:Nat):Int)=0 from rfl]at main;rw[main];simp only[bind_some];have e:sub (dV p) 0 p.length=dV p:=by rw[<- bW p];exact bB _
  rw[e,bW];simp
 ·have nz:(((p.length:Nat):Int) != 0)=true:=by simp;intro h;rw[h]at hi;simp at hi
  have md:(i+1)%p.length < p.length:=Nat.mod_lt _ (by omega);have w:i64.wrap ((i:Int)+1)=((i+1:Nat):Int):=ay (by omega);have z:(((p.length:Nat):Int)).toNat=p.length:=by omega
  have rp:List.replicate (p.length - i) (fV.mk 0 0 0 0)=fV.mk 0 0 0 0::List.replicate (p.length - (i+1)) (fV.mk 0 0 0 0):=by rw[show p.length - i=(p.length - (i+1))+1 by omega,List.replicate_succ]
  have la:((List.range i).map (fP p)).length=i:=by simp
  have g:at? ((List.range i).map (fP p)++List.replicate (p.length - i) (fV.mk 0 0 0 0)) (((0:Nat):Int)+((i:Nat):Int))=some (fV.mk 0 0 0 0):=by rw[ow,List.getElem?_append_right (by omega),la,rp,Nat.sub_self];rfl
  have z2:(((0:Nat):Int)+((i:Nat):Int)).toNat=i:=by omega
  have st:((List.range i).map (fP p)++List.replicate (p.length - i) (fV.mk 0 0 0 0)).set i (fP p i)=(List.range (i+1)).map (fP p)++List.replicate (p.length - (i+1)) (fV.mk 0 0 0 0):=by
   rw[rp];have:=Rt ((List.range i).map (fP p)) (List.replicate (p.length - (i+1)) (fV.mk 0 0 0 0)) (fV.mk 0 0 0 0) (fP p i);rw[la]at this;rw[this,List.range_succ,List.map_append,append_assoc];rfl
  simp only[lG,bJ hi,cond_true,bn hi,bind_some,nz,w,Vg,bn md,z,aZ hi,g,z2];rw[<- O9 hi,<- O9 md];rw[show fV.mk (ptA p i).x (ptA p i).y (ptA p ((i+1)%p.length)).x (ptA p ((i+1)%p.length)).y=fP p i from rfl,st]
 ·simp only[lG,nZ,cond_false,Nat.sub_self,List.replicate_zero,append_nil];rfl
def Pb (a:bM):Bool:=decide (0<=a.x)&&(decide (a.x<=1048576)&&(decide (0<=a.y)&&decide (a.y<=1048576)))
def upP (s:fV):Bool:=s.a_x==s.b_x
def WU (s t:fV):Bool:=decide (max (min s.a_x s.b_x) (min t.a_x t.b_x)<=min (max s.a_x s.b_x) (max t.a_x t.b_x))&&decide (max (min s.a_y s.b_y) (min t.a_y t.b_y)<=min (max s.a_y s.b_y) (max t.a_y t.b_y))
def Pd (a b:bM):Bool:=decide (a.x < b.x) || (a.x==b.x&&decide (a.y < b.y))
theorem J2 (a:bM):qf a=some (Pb a):=by simp only[qf,Lu,Pb]
theorem A8 (s t:fV):iY s t=some (WU s t):=by simp only[iY,Lu,WU]
theorem jX (s:fV):eu s=some (upP s):=rfl
theorem Ru {n:Nat} (a b:Int) (hn:3<=n):oM n [a,b]=some (if a=0 then b else a):=by
 obtain⟨m,rfl⟩:∃ m,n=m+3:=⟨n - 3,by omega⟩;have w1:i64.wrap ((0:Int)+1)=1:=by decide
 have w2:i64.wrap ((1:Int)+1)=2:=by decide
 by_cases ha:a=0
 ·by_cases hb:b=0
  ·subst ha;subst hb;simp only[oM,AA,sJ,w1,w2];rfl
  ·have hb':(b != 0)=true:=(by simpa using hb);subst ha;simp only[oM,AA,sJ,w1];simp[at?,hb',dZ]
 ·have ha':(a != 0)=true:=by simpa using ha
  simp only[oM,AA,sJ];simp[at?,ha',dZ,ha]
theorem HY {n:Nat} (a b:bM) (hn:3<=n):∃ r,oz n a b=some r∧decide (r>=0)=!Pd a b:=by
 unfold oz;rw[iE,iE];simp only[bind_some];rw[show ∀ u v:Int,sub [u,v] 0 2=[u,v]from fun _ _=>rfl,Ru _ _ hn];refine⟨_,rfl,?_⟩;unfold Pd;by_cases h1:a.x < b.x
 ·simp[h1]
 ·by_cases h2:b.x < a.x
  ·have h3:¬ a.x=b.x:=(by omega);simp[h1,h2,h3]
  ·have h3:a.x=b.x:=(by omega);by_cases h4:a.y < b.y
   ·simp[h3,h4]
   ·by_cases h5:b.y < a.y<;>simp[h3,h4,h5]
def aeu (p:List bM) (i:Nat):Bool:=
 (!Pb (ptA p i) || ((((fP p i).a_x==(fP p i).b_x)==((fP p i).a_y==(fP p i).b_y)) || (upP (fP p i)==upP (fP p ((i+1)%p.length))))) || (decide (0 < i)&&!Pd (ptA p 0) (ptA p i))
def Oh (p:List bM) (i k:Nat):Bool:=decide (i+p.length - k>1)&&WU (fP p i) (fP p k)
def LB (p:List bM):Bool:=
 decide (4<=p.length)&&(decide (p.length<=60)&&(!((List.range p.length).any (aeu p))&&(!((List.range p.length).any fun i=>(List.range p.length).any fun k=>decide (i+2<=k)&&Oh p i k)&&!upP (fP p 0))))
def aO (l:List aj) (x y:Int):Bool:=l.any fun r=>(decide (r.x0<=x)&&decide (x < r.x1))&&(decide (r.y0<=y)&&decide (y < r.y1))
theorem EN (l:List aj) (x y:Int):inS (bI l x) y=aO l x y:=by
 induction l with
 |nil=>rfl
 |cons r l ih=>
  unfold bI aO at*;rw[List.filter_cons,List.any_cons,<- ih];cases h:(decide (r.x0<=x)&&decide (x < r.x1))with
  |true=>simp only[if_true,map_cons,Bool.true_and];rw[jW]
  |false=>simp
theorem cZ {l:List aj} (h:∀ r∈l,OkR r=true) (x:Int):Can (aL l x)∧∀ y,inS (aL l x) y=aO l x y:=by
 obtain⟨h1,h2⟩:=Ls (HV h x);exact⟨h1,fun y=>by rw[aL,h2,EN]⟩
def lD:List aF->Prop
 |[]=>True
 |[s]=>s.x0 < s.x1
 |s::t::l=>s.x0 < s.x1∧s.x1=t.x0∧lD (t::l)
def dU:List aF->Int->List ax
 |[],_=>[]
 |s::l,x=>bif decide (s.x0<=x)&&decide (x < s.x1)then s.column else dU l x
theorem fE (s:aF) (l:List aF) (x:Int):dU (s::l) x=bif decide (s.x0<=x)&&decide (x < s.x1)then s.column else dU l x:=rfl
def Runs:List aF->Prop
 |[]=>True
 |[s]=>s.x0 < s.x1∧s.column≠[]
 |s::t::l=>(s.x0 < s.x1∧s.column≠[])∧s.x1<=t.x0∧(s.x1=t.x0->s.column≠t.column)∧Runs (t::l)
theorem eU {s:aF} {l:List aF} (h:Runs (s::l)):Runs l:=by
 cases l with
 |nil=>trivial
 |cons t l=>exact h.2.2.2
theorem gy {s:aF} {l:List aF} (h:Runs (s::l)):s.x0 < s.x1∧s.column≠[]:=by
 cases l with
 |nil=>exact h
 |cons t l=>exact h.1
theorem jl:∀ {l:List aF} {b x:Int},Runs l->(∀ s∈l.head?,b<=s.x0)->x < b->dU l x=[]
 |[],_,_,_,_,_=>rfl
 |s::l,b,x,h,hb,hx=>by
  have h0:=hb s rfl;have hs:=gy h;have c:(decide (s.x0<=x)&&decide (x < s.x1))=false:=by rw[Bool.and_eq_false_iff,decide_eq_false_iff_not];left;omega
  rw[fE,c,cond_false];refine jl (eU h) (b:=s.x1) (fun t ht=>?_) (by omega);cases l with
  |nil=>cases ht
  |cons u l=>
   have:t=u:=(by simpa using ht.symm);subst this;exact h.2.1
theorem qz {s:aF} {l:List aF} {x:Int} (h1:s.x0<=x) (h2:x < s.x1):dU (s::l) x=s.column:=by rw[fE,show (decide (s.x0<=x)&&decide (x < s.x1))=true by simp[h1,h2]];rfl
theorem tZ {s:aF} {l:List aF} {x:Int} (h:s.x1<=x):dU (s::l) x=dU l x:=by rw[fE,show (decide (s.x0<=x)&&decide (x < s.x1))=false by rw[Bool.and_eq_false_iff,decide_eq_false_iff_not,decide_eq_false_iff_not];right;omega];rfl
theorem YV {s:aF} {l:List aF} (h:Runs (s::l)):dU l s.x1≠s.column:=by
 have hs:=gy h;cases l with
 |nil=>exact fun e=>hs.2 e.symm
 |cons t l=>
  obtain⟨_,h2,h3,h4⟩:=h;have ht:=gy h4;by_cases e:s.x1=t.x0
  ·rw[qz (by omega) (by omega)];exact fun e'=>h3 e e'.symm
  ·rw[jl h4 (b:=t.x0) (fun u hu=>by have:u=t:=by simpa using hu.symm
                                    subst this;exact Int.le_refl _) (by omega)]
   exact fun e'=>hs.2 e'.symm
theorem Nz:∀ {l m:List aF},Runs l->Runs m->(∀ x,dU l x=dU m x)->l=m
 |[],[],_,_,_=>rfl
 |[],b::m,_,hm,h=>by
  have hb:=gy hm;have:=h b.x0;rw[qz (Int.le_refl _) hb.1]at this;exact absurd this.symm hb.2
 |a::l,[],hl,_,h=>by
  have ha:=gy hl;have:=h a.x0;rw[qz (Int.le_refl _) ha.1]at this;exact absurd this ha.2
 |a::l,b::m,hl,hm,h=>by
  have ha:=gy hl;have hb:=gy hm;have e0:a.x0=b.x0:=by
   rcases Int.lt_trichotomy a.x0 b.x0 with hlt |he |hlt
   ·have:=h a.x0
    rw[qz (Int.le_refl _) ha.1,jl hm (b:=b.x0) (fun u hu=>by have:u=b:=by simpa using hu.symm
                                                             subst this;exact Int.le_refl _) hlt]at this
    exact absurd this ha.2
   ·exact he
   ·have:=h b.x0
    rw[qz (Int.le_refl _) hb.1,jl hl (b:=a.x0) (fun u hu=>by have:u=a:=by simpa using hu.symm
                                                             subst this;exact Int.le_refl _) hlt]at this
    exact absurd this.symm hb.2
  have ec:a.column=b.column:=by
   have:=h a.x0
   rwa [qz (Int.le_refl _) ha.1,qz (by omega) (by omega)]at this
  have e1:a.x1=b.x1:=by
   rcases Int.lt_trichotomy a.x1 b.x1 with hlt |he |hlt
   ·have:=h a.x1;rw[tZ (Int.le_refl _),qz (by omega) hlt]at this;exact absurd (this.trans ec.symm) (YV hl)
   ·exact he
   ·have:=h b.x1;rw[tZ (s:=b) (Int.le_refl _),qz (by omega) hlt]at this;exact absurd (this.symm.trans ec) (YV hm)
  have e:a=b:=by cases a;cases b;simp only at e0 e1 ec;rw[e0,e1,ec]
  subst e;rw[Nz (eU hl) (eU hm) fun x=>?_];by_cases hx:x < a.x1
  ·have bl:=jl (eU hl) (b:=a.x1) (x:=x) (fun t ht=>by
    cases l with
    |nil=>cases ht
    |cons u l=>
     have:t=u:=(by simpa using ht.symm);subst this;exact hl.2.1) hx
   have bm:=jl (eU hm) (b:=a.x1) (x:=x) (fun t ht=>by
    cases m with
    |nil=>cases ht
    |cons u m=>
     have:t=u:=(by simpa using ht.symm);subst this;exact hm.2.1) hx
   rw[bl,bm]
  ·have:=h x
   rwa [tZ (by omega),tZ (by omega)]at this
def EO (x0 x1:Int) (c:List ax):List aF:=if c=[]then []else [⟨x0,x1,c⟩]
def Dk (x0 x1:Int) (c:List ax):List aF->List aF
 |[]=>EO x0 x1 c
 |s::l=>if s.column=c then Dk x0 s.x1 c l else EO x0 x1 c++Dk s.x0 s.x1 s.column l
def A9:List aF->List aF
 |[]=>[]
 |s::l=>Dk s.x0 s.x1 s.column l
def fJ (l:List aF):List aj:=l.flatMap fun s=>aA s.x0 s.x1 s.column
theorem NA (x0 x1:Int) (c:List ax):fJ (EO x0 x1 c)=aA x0 x1 c:=by
 unfold EO;split
 ·rename_i h;subst h;rfl
 ·simp[fJ]
theorem LC:∀ (l:List aF) (x0 x1:Int) (c:List ax),xR x0 x1 c l=fJ (Dk x0 x1 c l)
 |[],x0,x1,c=>(NA x0 x1 c).symm
 |s::l,x0,x1,c=>by
  simp only[xR,Dk];split
  ·exact LC l _ _ _
  ·rw[LC l];unfold fJ;rw[List.flatMap_append];congr 1;exact (NA x0 x1 c).symm
theorem uf (l:List aF):aR l=fJ (A9 l):=by
 cases l with
 |nil=>rfl
 |cons s l=>exact LC l _ _ _
theorem HZ (x0:Int):∀ (l:List aF) (x1:Int) (c:List ax),x0 < x1->(∀ s∈l.head?,x1=s.x0)->lD l->∀ t∈(Dk x0 x1 c l).head?,x0<=t.x0∧(t.x0=x0->t.column=c)
 |[],x1,c,_,_,_,t,ht=>by
  simp only[Dk,EO]at ht;split at ht
  ·cases ht
  ·have:t=⟨x0,x1,c⟩:=(by simpa using ht.symm);subst this;exact⟨Int.le_refl _,fun _=>rfl⟩
 |s::l,x1,c,hx,hc,hS,t,ht=>by
  have e:=hc s rfl;have hs:s.x0 < s.x1∧(∀ u∈l.head?,s.x1=u.x0)∧lD l:=by
   cases l with
   |nil=>exact⟨hS,fun u hu=>(by cases hu),trivial⟩
   |cons v l=>exact⟨hS.1,fun u hu=>by have:u=v:=by simpa using hu.symm
                                      subst this;exact hS.2.1,hS.2.2⟩
  simp only[Dk]at ht;split at ht
  ·exact HZ x0 l s.x1 c (by omega) hs.2.1 hs.2.2 t ht
  ·unfold EO at ht;split at ht
   ·rw[nil_append]at ht;have:=HZ s.x0 l s.x1 s.column hs.1 hs.2.1 hs.2.2 t ht;exact⟨by omega,fun h=>by omega⟩
   ·have:t=⟨x0,x1,c⟩:=(by simpa using ht.symm);subst this;exact⟨Int.le_refl _,fun _=>rfl⟩
theorem acZ {s:aF} {l:List aF} (h1:s.x0 < s.x1) (h2:s.column≠[]) (h3:∀ t∈l.head?,s.x1<=t.x0∧(s.x1=t.x0->s.column≠t.column)) (h4:Runs l):Runs (s::l):=by
 cases l with
 |nil=>exact⟨h1,h2⟩
 |cons t l=>
  have:=h3 t rfl;exact⟨⟨h1,h2⟩,this.1,this.2,h4⟩
theorem H6:∀ (l:List aF) (x0 x1:Int) (c:List ax),x0 < x1->(∀ s∈l.head?,x1=s.x0)->lD l->
 Runs (Dk x0 x1 c l)∧∀ x,dU (Dk x0 x1 c l) x=bif decide (x0<=x)&&decide (x < x1)then c else dU l x
 |[],x0,x1,c,hx,_,_=>by
  simp only[Dk,EO];split
  ·rename_i h;subst h;exact⟨trivial,fun x=>by simp[dU]⟩
  ·rename_i h;exact⟨⟨hx,h⟩,fun x=>rfl⟩
 |s::l,x0,x1,c,hx,hc,hS=>by
  have e:=hc s rfl;have hs:s.x0 < s.x1∧(∀ u∈l.head?,s.x1=u.x0)∧lD l:=by
   cases l with
   |nil=>exact⟨hS,fun u hu=>(by cases hu),trivial⟩
   |cons v l=>exact⟨hS.1,fun u hu=>by have:u=v:=by simpa using hu.symm
                                      subst this;exact hS.2.1,hS.2.2⟩
  simp only[Dk];split
  ·rename_i hcol;obtain⟨r1,r2⟩:=H6 l x0 s.x1 c (by omega) hs.2.1 hs.2.2;refine⟨r1,fun x=>?_⟩;rw[r2,fE,hcol];by_cases h1:x0<=x<;>by_cases h2:x < x1<;>by_cases h3:s.x0<=x<;>by_cases h4:x < s.x1<;>simp[h1,h2,h3,h4]<;>omega
  ·rename_i hcol;obtain⟨r1,r2⟩:=H6 l s.x0 s.x1 s.column hs.1 hs.2.1 hs.2.2;have hd:=HZ s.x0 l s.x1 s.column hs.1 hs.2.1 hs.2.2;unfold EO;split
   ·rename_i hn;subst hn;rw[nil_append];refine⟨r1,fun x=>?_⟩;rw[r2,fE];by_cases h1:x0<=x<;>by_cases h2:x < x1
    ·have h3:¬ s.x0<=x:=(by omega);simp only[h1,h2,h3,decide_true,decide_false,Bool.and_self,Bool.false_and,cond_true,cond_false];have:=jl r1 (b:=s.x0) (x:=x) (fun t ht=>(hd t ht).1) (by omega);rw[r2]at this;simpa[h3]using this
    all_goals simp[h1,h2]
   ·rename_i hn;rw[List.singleton_append];refine⟨acZ hx hn (fun t ht=>?_) r1,fun x=>?_⟩
    ·obtain⟨d1,d2⟩:=hd t ht;refine⟨by show x1<=t.x0;omega,fun ht2 hcc=>?_⟩;have ht2:x1=t.x0:=ht2;rw[d2 (by omega)]at hcc;exact hcol hcc.symm
    ·rw[fE,r2,fE]
theorem xB {l:List aF} (h:lD l):Runs (A9 l)∧∀ x,dU (A9 l) x=dU l x:=by
 cases l with
 |nil=>exact⟨trivial,fun _=>rfl⟩
 |cons s l=>
  have hs:s.x0 < s.x1∧(∀ u∈l.head?,s.x1=u.x0)∧lD l:=by
   cases l with
   |nil=>exact⟨h,fun u hu=>(by cases hu),trivial⟩
   |cons v l=>exact⟨h.1,fun u hu=>by have:u=v:=by simpa using hu.symm
                                     subst this;exact h.2.1,h.2.2⟩
  obtain⟨r1,r2⟩:=H6 l s.x0 s.x1 s.column hs.1 hs.2.1 hs.2.2;exact⟨r1,fun x=>by rw[fE];exact r2 x⟩
theorem GD {l m:List aF} (hl:lD l) (hm:lD m) (h:∀ x,dU l x=dU m x):aR l=aR m:=by
 obtain⟨l1,l2⟩:=xB hl;obtain⟨m1,m2⟩:=xB hm;rw[uf,uf,Nz l1 m1 fun x=>by rw[l2,m2,h]]
theorem Rv (l m:List aj) (x:Int):bI (l++m) x=bI l x++bI m x:=by simp[bI]
theorem TD (x0 x1:Int) (c:List ax) (x:Int):bI (aA x0 x1 c) x=bif decide (x0<=x)&&decide (x < x1)then c else []:=by
 unfold bI aA
 induction c with
 |nil=>simp
 |cons s c ih=>
  rw[map_cons,List.filter_cons];cases h:(decide (x0<=x)&&decide (x < x1))with
  |true=>rw[h]at ih;simp only[if_true,map_cons,ih,cond_true]
  |false=>rw[h]at ih;simpa using ih
theorem J3:∀ {l:List aF},Runs l->∀ x,bI (fJ l) x=dU l x
 |[],_,x=>rfl
 |s::l,h,x=>by
  have ih:=J3 (eU h) x;have hs:=gy h;show bI (aA s.x0 s.x1 s.column++fJ l) x=_;rw[Rv,TD,ih,fE];cases hc:(decide (s.x0<=x)&&decide (x < s.x1))with
  |false=>rfl
  |true=>
   rw[and_eq_true,decide_eq_true_eq,decide_eq_true_eq]at hc;have:=jl (eU h) (b:=s.x1) (x:=x) (fun t ht=>by
    cases l with
    |nil=>cases ht
    |cons u l=>
     have:t=u:=(by simpa using ht.symm);subst this;exact h.2.1) hc.2
   rw[this];simp
theorem EP {l:List aF} (h:lD l) (x:Int):bI (aR l) x=dU l x:=by
 obtain⟨h1,h2⟩:=xB h;rw[uf,J3 h1,h2]
theorem Ct {l:List aF} (h:lD l) (x y:Int):aO (aR l) x y=inS (dU l x) y:=by rw[<- EN,EP h]
theorem jm {α:Type} (f:Int->Int->α) (a b:Int) (l:List Int):dN f (a::b::l)=f a b::dN f (b::l):=rfl
theorem vS (g:Int->List ax):∀ (es:List Int),es.Pairwise (· < ·)->lD (dN (fun a b=>(⟨a,b,g a⟩:aF)) es)
 |[],_=>trivial
 |[_],_=>trivial
 |[a,b],h=>by
  have h1:=(pairwise_cons.1 h).1 b (by simp);exact h1
 |a::b::c::l,h=>by
  have h1:=(pairwise_cons.1 h).1 b (by simp);exact⟨h1,rfl,vS g (b::c::l) (pairwise_cons.1 h).2⟩
theorem EQ (g:Int->List ax) (x:Int):∀ (es:List Int),(∀ e∈es,x < e)->dU (dN (fun a b=>(⟨a,b,g a⟩:aF)) es) x=[]
 |[],_=>rfl
 |[_],_=>rfl
 |a::b::l,h=>by
  have ha:=h a (by simp);rw[jm,fE,show (decide (a<=x)&&decide (x < b))=false by rw[Bool.and_eq_false_iff,decide_eq_false_iff_not];left;omega,cond_false];exact EQ g x (b::l) fun e he=>h e (mem_cons_of_mem _ he)
theorem ER (g:Int->List ax) (x:Int):∀ (l:List Int) (a:Int),(a::l).Pairwise (· < ·)->a<=x->
 (∀ e∈a::l,e<=x->(∀ e'∈a::l,e'<=e∨x < e')->g e=g x)->((∀ e∈a::l,e<=x)->g x=[])->dU (dN (fun a b=>(⟨a,b,g a⟩:aF)) (a::l)) x=g x
 |[],a,_,hx,_,h2=>(h2 (fun e he=>by have:e=a:=by simpa using he
                                    subst this;exact hx)).symm
 |b::l,a,hp,hx,h1,h2=>by
  have hab:=(pairwise_cons.1 hp).1 b (by simp);rw[jm,fE];by_cases hb:x < b
  ·rw[show (decide (a<=x)&&decide (x < b))=true by simp[hx,hb],cond_true];refine h1 a (by simp) hx fun e he=>?_;rcases mem_cons.1 he with rfl |he
   ·exact .inl (Int.le_refl _)
   ·right;rcases mem_cons.1 he with rfl |he
    ·exact hb
    ·have:=(pairwise_cons.1 (pairwise_cons.1 hp).2).1 e he;omega
  ·rw[show (decide (a<=x)&&decide (x < b))=false by simp[hb],cond_false];refine ER g x l b (pairwise_cons.1 hp).2 (by omega) (fun e he hex hc=>h1 e (mem_cons_of_mem _ he) hex fun e' he'=>?_) fun hall=>h2 fun e he=>?_
   ·rcases mem_cons.1 he' with rfl |he'
    ·left;have:=(pairwise_cons.1 hp).1 e he;omega
    ·exact hc e' he'
   ·rcases mem_cons.1 he with rfl |he
    ·exact hx
    ·exact hall e he
theorem ES (g:Int->List ax) (es:List Int) (hp:es.Pairwise (· < ·)) (x:Int)
 (h1:∀ e∈es,e<=x->(∀ e'∈es,e'<=e∨x < e')->g e=g x) (h2:(∀ e∈es,e<=x)->g x=[]) (h3:(∀ e∈es,x < e)->g x=[]):dU (dN (fun a b=>(⟨a,b,g a⟩:aF)) es) x=g x:=by
 cases es with
 |nil=>exact (h3 (by simp)).symm
 |cons a l=>
  by_cases hx:a<=x
  ·exact ER g x l a hp hx h1 h2
  ·have hall:∀ e∈a::l,x < e:=by
    intro e he;rcases mem_cons.1 he with rfl |he
    ·omega
    ·have:=(pairwise_cons.1 hp).1 e he;omega
   rw[EQ g x _ hall,h3 hall]
theorem xC {l:List aj} {z:Int}:z∈aK l↔∃ r∈l,z=r.x0∨z=r.x1:=by
 rw[aK,Q8,mem_flatMap];simp
theorem og (l:List aj):(aK l).Pairwise (· < ·):=Es _
theorem zF {l:List aj} {es:List Int} (hes:∀ r∈l,r.x0∈es∧r.x1∈es) {e x:Int} (hex:e<=x) (hc:∀ e'∈es,e'<=e∨x < e'):bI l e=bI l x:=by
 unfold bI;congr 1;refine List.filter_congr fun r hr=>?_;obtain⟨h0,h1⟩:=hes r hr;have:=hc _ h0;have:=hc _ h1;rw[Bool.eq_iff_iff,and_eq_true,and_eq_true,decide_eq_true_eq,decide_eq_true_eq,decide_eq_true_eq,decide_eq_true_eq];omega
theorem mU {l:List aj} {x:Int} (h:∀ r∈l,x < r.x0∨r.x1<=x):bI l x=[]:=by
 unfold bI;rw[List.map_eq_nil_iff,List.filter_eq_nil_iff];intro r hr;have:=h r hr;rw[and_eq_true,decide_eq_true_eq,decide_eq_true_eq];omega
theorem fQ (l:List aj):lD (aD l):=vS _ _ (og l)
theorem jC (l:List aj) (x:Int):dU (aD l) x=aL l x:=by
 have hes:∀ r∈l,r.x0∈aK l∧r.x1∈aK l:=fun r hr=>⟨xC.2 ⟨r,hr,.inl rfl⟩,xC.2 ⟨r,hr,.inr rfl⟩⟩;refine ES (aL l) (aK l) (og l) x (fun e _ hex hc=>?_) (fun hall=>?_) (fun hall=>?_)
 ·unfold aL;rw[zF hes hex hc]
 ·unfold aL;rw[mU fun r hr=> .inr (hall _ (hes r hr).2)];rfl
 ·unfold aL;rw[mU fun r hr=> .inl (hall _ (hes r hr).1)];rfl
theorem aev {c:List ax} (h:Can c):WS c=c:=by
 obtain⟨h1,h2⟩:=Ls h.2;exact l5 h1 h h2
theorem NC {l:List aF} {r:aj}:r∈fJ l↔∃ s∈l,∃ q∈s.column,r=⟨s.x0,q.from_,s.x1,q.to⟩:=by
 simp only[fJ,aA,mem_flatMap,mem_map];constructor
 ·rintro⟨s,hs,q,hq,rfl⟩;exact⟨s,hs,q,hq,rfl⟩
 ·rintro⟨s,hs,q,hq,rfl⟩;exact⟨s,hs,q,hq,rfl⟩
theorem ug:∀ {l:List aF},Runs l->∀ s∈l,s.x0 < s.x1∧∀ x,s.x0<=x->x < s.x1->dU l x=s.column
 |[],_,s,hs=>by simp at hs
 |t::l,h,s,hs=>by
  rcases mem_cons.1 hs with rfl |hs
  ·exact⟨(gy h).1,fun x h1 h2=>qz h1 h2⟩
  ·obtain⟨g1,g2⟩:=ug (eU h) s hs;refine⟨g1,fun x h1 h2=>?_⟩;have:t.x1<=x:=by
    by_cases hlt:x < t.x1
    ·have hb:=jl (eU h) (b:=t.x1) (x:=x) (fun u hu=>by
      cases l with
      |nil=>cases hu
      |cons v l=>
       have:u=v:=(by simpa using hu.symm);subst this;exact h.2.1) hlt
     rw[g2 x h1 h2]at hb;have hne:s.column≠[]:=by
      have:∀ {l:List aF},Runs l->∀ s∈l,s.column≠[]:=by
       intro l
       induction l with
       |nil=>intro _ s hs;simp at hs
       |cons a l ih=>
        intro h s hs;rcases mem_cons.1 hs with rfl |hs
        ·exact (gy h).2
        ·exact ih (eU h) s hs
      exact this (eU h) s hs
     exact absurd hb hne
    ·omega
   rw[tZ this,g2 x h1 h2]
theorem Cu {S:List aF} (hS:lD S) (hc:∀ x,Can (dU S x)) (hb:∀ x y,inS (dU S x) y=true->(0<=x∧x < 1048576)∧(0<=y∧y < 1048576)) (hl:(aR S).length<=200):rightL (aR S)=true:=by
 have hok:∀ r∈aR S,OkR r=true:=by
  intro r hr;obtain⟨r1,r2⟩:=xB hS;rw[uf,NC]at hr;obtain⟨s,hs,q,hq,rfl⟩:=hr;obtain⟨g1,g2⟩:=ug r1 s hs;have c0:=g2 s.x0 (Int.le_refl _) g1;have c1:=g2 (s.x1 - 1) (by omega) (by omega);rw[r2]at c0 c1;have hcan:=hc s.x0;rw[c0]at hcan;have hq1:q.from_ < q.to:=hcan.2 q hq;have b0:=hb s.x0 q.from_ (by rw[c0,jI];exact⟨q,hq,Int.le_refl _,hq1⟩);have b1:=hb (s.x1 - 1) (q.to - 1) (by rw[c1,jI];exact⟨q,hq,by omega,by omega⟩);simp only[OkR,and_eq_true,decide_eq_true_eq];omega
 have he:aR (aD (aR S))=aR S:=by
  refine GD (fQ _) hS fun x=>?_;rw[jC,aL,EP hS,aev (hc x)]
 unfold rightL ofL;rw[if_pos (all_eq_true.2 hok),if_neg (by omega),he,if_neg (by omega)];simp
theorem ac0 {a:List aj} (h:rightL a=true):ofL a=(a,0):=by
 unfold rightL at h;rw[and_eq_true,decide_eq_true_eq,decide_eq_true_eq]at h;obtain⟨h1,h2⟩:=h;exact Prod.ext h2 h1
theorem bV {a:List aj} (h:rightL a=true):(∀ r∈a,OkR r=true)∧a.length<=200∧aR (aD a)=a:=by
 have h:=ac0 h;unfold ofL at h;split at h
 ·rename_i hall;split at h
  ·simp at h
  ·split at h
   ·simp at h
   ·rename_i h200;injection h with h _;refine⟨all_eq_true.1 hall,?_,h⟩;rw[<- h];omega
 ·simp at h
theorem TF {a b:List aj} (ha:rightL a=true) (hb:rightL b=true) (h:∀ x y,aO a x y=aO b x y):a=b:=by
 obtain⟨a1,_,a3⟩:=bV ha;obtain⟨b1,_,b3⟩:=bV hb;rw[<- a3,<- b3];refine GD (fQ a) (fQ b) fun x=>?_;rw[jC,jC];refine l5 (cZ a1 x).1 (cZ b1 x).1 fun y=>?_;rw[(cZ a1 x).2,(cZ b1 x).2,h]
theorem mV {a:List aj} (h:∀ r∈a,OkR r=true) {x y:Int} (hc:aO a x y=true):(0<=x∧x < 1048576)∧(0<=y∧y < 1048576):=by
 simp only[aO,any_eq_true,and_eq_true,decide_eq_true_eq]at hc;obtain⟨q,hq,h1,h2⟩:=hc;have:=h q hq;simp only[OkR,and_eq_true,decide_eq_true_eq]at this;omega
def ext (out:List ax) (p:ax):List ax:=
 match out.getLast? with
 |some q=>bif q.to==p.from_ then out.dropLast++[⟨q.from_,p.to⟩]else out++[p]
 |none=>[p]
def ysL (a b:List ax):List Int:=aaH ((a++b).flatMap fun s=>[s.from_,s.to])
def jY (keep:Bool->Bool->Bool) (a b:List ax):List ax:=
 ((dN ax.mk (ysL a b)).filter fun p=>keep (inS a p.from_) (inS b p.from_)).foldl ext []
theorem H7 (o:List ax) (q p:ax):ext (o++[q]) p=bif q.to==p.from_ then o++[⟨q.from_,p.to⟩]else o++[q]++[p]:=by simp[ext]
theorem aew {out:List ax} {p:ax} (hc:Can out) (hp:OkS p) (hb:∀ o∈out,o.to<=p.from_):
 Can (ext out p)∧(∀ o∈ext out p,o.to<=p.to)∧∀ y,inS (ext out p) y=(inS out y || inS [p] y):=by
 have hp':p.from_ < p.to:=hp;rcases List.eq_nil_or_concat out with rfl |⟨o,q,rfl⟩
 ·refine⟨⟨by simp[ext],by simp[ext];exact hp⟩,by simp[ext],fun y=>by simp[ext,inS]⟩
 ·rw[List.concat_eq_append]at*;obtain⟨h1,h2⟩:=hc;rw[pairwise_append]at h1;obtain⟨p1,_,p3⟩:=h1;have hq:q.from_ < q.to:=h2 q (by simp);have hqp:q.to<=p.from_:=hb q (by simp);rw[H7];cases hj:q.to==p.from_ with
  |true=>
   have hj:=eq_of_beq hj;simp only[cond_true];refine⟨⟨?_,?_⟩,?_,?_⟩
   ·rw[pairwise_append];refine⟨p1,by simp,fun a ha b hb'=>?_⟩;rw[mem_singleton]at hb';subst hb';exact p3 a ha q (by simp)
   ·intro a ha;rcases mem_append.1 ha with ha |ha
    ·exact h2 a (by simp[ha])
    ·rw[mem_singleton]at ha;subst ha;show q.from_ < p.to;omega
   ·intro a ha;rcases mem_append.1 ha with ha |ha
    ·have:=hb a (by simp[ha]);omega
    ·rw[mem_singleton]at ha;subst ha;exact Int.le_refl _
   ·intro y;rw[lZ,lZ,Bool.or_assoc];congr 1;simp only[jW,sP,Bool.or_false];rw[Bool.eq_iff_iff];simp only[and_eq_true,Bool.or_eq_true,decide_eq_true_eq];omega
  |false=>
   rw[beq_eq_false_iff_ne]at hj;simp only[cond_false];refine⟨⟨?_,?_⟩,?_,?_⟩
   ·rw[pairwise_append];refine⟨?_,by simp,fun a ha b hb'=>?_⟩
    ·rw[pairwise_append];exact⟨p1,by simp,p3⟩
    ·rw[mem_singleton]at hb';subst hb';rcases mem_append.1 ha with ha |ha
     ·have:=p3 a ha q (by simp);omega
     ·rw[mem_singleton]at ha;subst ha;omega
   ·intro a ha;rcases mem_append.1 ha with ha |ha
    ·exact h2 a ha
    ·rw[mem_singleton]at ha;subst ha;exact hp
   ·intro a ha;rcases mem_append.1 ha with ha |ha
    ·have:=hb a ha;omega
    ·rw[mem_singleton]at ha;subst ha;exact Int.le_refl _
   ·intro y;rw[lZ]
theorem LD:∀ (l out:List ax),Can out->(∀ s∈l,OkS s)->l.Pairwise (fun x y=>x.to<=y.from_)->(∀ o∈out,∀ s∈l,o.to<=s.from_)->Can (l.foldl ext out)∧∀ y,inS (l.foldl ext out) y=(inS out y || inS l y)
 |[],out,hc,_,_,_=>⟨hc,fun y=>by simp[sP]⟩
 |s::l,out,hc,hv,hp,hb=>by
  rw[pairwise_cons]at hp;obtain⟨m1,m2,m3⟩:=aew hc (hv s (by simp)) (fun o ho=>hb o ho s (by simp));obtain⟨f1,f2⟩:=LD l (ext out s) m1 (fun t ht=>hv t (by simp[ht])) hp.2 (fun o ho t ht=>Int.le_trans (m2 o ho) (hp.1 t ht));refine⟨f1,fun y=>?_⟩;rw[foldl_cons,f2,m3,Bool.or_assoc,<- lZ];rfl
theorem YW:∀ (es:List Int),es.Pairwise (· < ·)->(∀ p∈dN ax.mk es,OkS p∧p.from_∈es∧p.to∈es∧∀ e∈es,e<=p.from_∨p.to<=e)∧(dN ax.mk es).Pairwise fun x y=>x.to<=y.from_
 |[],_=>⟨by simp[dN],by simp[dN]⟩
 |[_],_=>⟨by simp[dN],by simp[dN]⟩
 |a::b::l,h=>by
  obtain⟨h1,h2⟩:=pairwise_cons.1 h;obtain⟨i1,i2⟩:=YW (b::l) h2;have hab:=h1 b (by simp);rw[jm];refine⟨fun p hp=>?_,?_⟩
  ·rcases mem_cons.1 hp with rfl |hp
   ·refine⟨hab,by simp,by simp,fun e he=>?_⟩;rcases mem_cons.1 he with rfl |he
    ·exact .inl (Int.le_refl _)
    ·right;rcases mem_cons.1 he with rfl |he
     ·exact Int.le_refl _
     ·have:=(pairwise_cons.1 h2).1 e he;show b<=e;omega
   ·obtain⟨g1,g2,g3,g4⟩:=i1 p hp;refine⟨g1,mem_cons_of_mem _ g2,mem_cons_of_mem _ g3,fun e he=>?_⟩;rcases mem_cons.1 he with rfl |he
    ·left;have:=h1 _ g2;omega
    ·exact g4 e he
  ·rw[pairwise_cons];refine⟨fun p hp=>?_,i2⟩;obtain⟨_,g2,_,_⟩:=i1 p hp;show b<=p.from_;rcases mem_cons.1 g2 with e |g2
   ·omega
   ·have:=(pairwise_cons.1 h2).1 _ g2;omega
theorem ND:∀ (es:List Int) (y:Int),(∃ e∈es,e<=y)->(∃ e∈es,y < e)->es.Pairwise (· < ·)->∃ p∈dN ax.mk es,p.from_<=y∧y < p.to
 |[],y,⟨e,he,_⟩,_,_=>by simp at he
 |[a],y,⟨e,he,h1⟩,⟨e',he',h2⟩,_=>by
  have:e=a:=by simpa using he
  have:e'=a:=by simpa using he'
  omega
 |a::b::l,y,h1,h2,hp=>by
  obtain⟨g1,g2⟩:=pairwise_cons.1 hp;rw[jm];by_cases hb:y < b
  ·refine⟨⟨a,b⟩,by simp,?_,hb⟩;obtain⟨e,he,hey⟩:=h1;show a<=y;rcases mem_cons.1 he with rfl |he
   ·exact hey
   ·have:=g1 e he;omega
  ·obtain⟨e',he',h2'⟩:=h2;obtain⟨p,hp,q⟩:=ND (b::l) y ⟨b,by simp,by omega⟩ ⟨e',(by
    rcases mem_cons.1 he' with rfl |he'
    ·have:=g1 b (by simp);omega
    ·exact he'),h2'⟩ g2
   exact⟨p,mem_cons_of_mem _ hp,q⟩
theorem Vh {c:List ax} {es:List Int} (hes:∀ s∈c,s.from_∈es∧s.to∈es) {e y:Int} (hey:e<=y) (hc:∀ e'∈es,e'<=e∨y < e'):inS c e=inS c y:=by
 rw[Bool.eq_iff_iff,jI,jI];constructor
 ·rintro⟨s,hs,h1,h2⟩;have:=hc _ (hes s hs).1;have:=hc _ (hes s hs).2;exact⟨s,hs,by omega,by omega⟩
 ·rintro⟨s,hs,h1,h2⟩;have:=hc _ (hes s hs).1;have:=hc _ (hes s hs).2;exact⟨s,hs,by omega,by omega⟩
theorem NE {keep:Bool->Bool->Bool} (hk:keep false false=false) (a b:List ax):Can (jY keep a b)∧∀ y,inS (jY keep a b) y=keep (inS a y) (inS b y):=by
 have hstr:(ysL a b).Pairwise (· < ·):=Es _;have hmem:∀ z,z∈ysL a b↔∃ s,(s∈a∨s∈b)∧(z=s.from_∨z=s.to):=by
  intro z;rw[ysL,Q8,mem_flatMap];simp
 have ha:∀ s∈a,s.from_∈ysL a b∧s.to∈ysL a b:=fun s hs=>⟨(hmem _).2 ⟨s,.inl hs,.inl rfl⟩,(hmem _).2 ⟨s,.inl hs,.inr rfl⟩⟩;have hb:∀ s∈b,s.from_∈ysL a b∧s.to∈ysL a b:=fun s hs=>⟨(hmem _).2 ⟨s,.inr hs,.inl rfl⟩,(hmem _).2 ⟨s,.inr hs,.inr rfl⟩⟩;obtain⟨p1,p2⟩:=YW (ysL a b) hstr;obtain⟨f1,f2⟩:=LD ((dN ax.mk (ysL a b)).filter fun p=>keep (inS a p.from_) (inS b p.from_)) [] vQ (fun s hs=>(p1 s (mem_filter.1 hs).1).1) (p2.filter _) (by simp);refine⟨f1,fun y=>?_⟩;rw[jY,f2,sP,Bool.false_or];by_cases hin:(∃ e∈ysL a b,e<=y)∧(∃ e∈ysL a b,y < e)
 ·obtain⟨p,hp,h1,h2⟩:=ND _ y hin.1 hin.2 hstr;obtain⟨_,_,_,q4⟩:=p1 p hp;have hc:∀ e'∈ysL a b,e'<=p.from_∨y < e':=fun e' he'=>by rcases q4 e' he' with h |h<;>omega
  rw[<- Vh ha h1 hc,<- Vh hb h1 hc,Bool.eq_iff_iff,jI];constructor
  ·rintro⟨s,hs,g1,g2⟩;rw[mem_filter]at hs;obtain⟨_,r2,r3,r4⟩:=p1 s hs.1;have:s.from_=p.from_:=by
    have e1:=q4 _ r2;have e2:=r4 _ (p1 p hp).2.1;omega
   rw[<- this];exact hs.2
  ·intro hkk;exact⟨p,mem_filter.2 ⟨hp,hkk⟩,h1,h2⟩
 ·have out:∀ c:List ax,(∀ s∈c,s.from_∈ysL a b∧s.to∈ysL a b)->inS c y=false:=by
   intro c hc;cases hy:inS c y with
   |false=>rfl
   |true=>
    obtain⟨s,hs,g1,g2⟩:=(jI _ _).1 hy;exact absurd ⟨⟨_,(hc s hs).1,g1⟩,⟨_,(hc s hs).2,g2⟩⟩ hin
  rw[out a ha,out b hb,hk];refine out _ fun s hs=>?_;obtain⟨_,r2,r3,_⟩:=p1 s (mem_filter.1 hs).1;exact⟨r2,r3⟩
def lI (keep:Bool->Bool->Bool) (a b:List aj):List aF:=
 dN (fun x x'=>(⟨x,x',jY keep (aL a x) (aL b x)⟩:aF)) (aK (a++b))
def oh (keep:Bool->Bool->Bool) (a b:List aj):List aj×Int:=
 if rightL a&&rightL b then (if (aR (lI keep a b)).length>200 then ([],6)else (aR (lI keep a b),0))else ([],1)
theorem Vi {keep:Bool->Bool->Bool} (hk:keep false false=false) (a b:List aj) (x:Int):dU (lI keep a b) x=jY keep (aL a x) (aL b x):=by
 have hes:∀ r∈a++b,r.x0∈aK (a++b)∧r.x1∈aK (a++b):=fun r hr=>⟨xC.2 ⟨r,hr,.inl rfl⟩,xC.2 ⟨r,hr,.inr rfl⟩⟩;have ha:∀ r∈a,r.x0∈aK (a++b)∧r.x1∈aK (a++b):=fun r hr=>hes r (List.mem_append_left _ hr);have hb:∀ r∈b,r.x0∈aK (a++b)∧r.x1∈aK (a++b):=fun r hr=>hes r (List.mem_append_right _ hr);have hnil:jY keep [] []=[]:=rfl;have e0:WS []=[]:=rfl;refine ES (fun x=>jY keep (aL a x) (aL b x)) (aK (a++b)) (og _) x (fun e _ hex hc=>?_) (fun hall=>?_) (fun hall=>?_)
 ·unfold aL;rw[zF ha hex hc,zF hb hex hc]
 ·unfold aL;rw[mU fun r hr=> .inr (hall _ (ha r hr).2),mU fun r hr=> .inr (hall _ (hb r hr).2),e0,hnil]
 ·unfold aL;rw[mU fun r hr=> .inl (hall _ (ha r hr).1),mU fun r hr=> .inl (hall _ (hb r hr).1),e0,hnil]
theorem TG {keep:Bool->Bool->Bool} (hk:keep false false=false) {a b r:List aj} (h:oh keep a b=(r,0)):rightL a=true∧rightL b=true∧rightL r=true∧∀ x y,aO r x y=keep (aO a x y) (aO b x y):=by
 unfold oh at h;split at h
 ·rename_i hab;rw[and_eq_true]at hab;split at h
  ·simp at h
  ·rename_i h200;injection h with h _;subst h;obtain⟨a1,_,_⟩:=bV hab.1;obtain⟨b1,_,_⟩:=bV hab.2;have hS:lD (lI keep a b):=vS _ _ (og _);have hcell:∀ x y,inS (dU (lI keep a b) x) y=keep (aO a x y) (aO b x y):=by
    intro x y;rw[Vi hk,(NE hk _ _).2,(cZ a1 x).2,(cZ b1 x).2]
   refine⟨hab.1,hab.2,Cu hS (fun x=>by rw[Vi hk];exact (NE hk _ _).1) (fun x y hy=>?_) (by omega),fun x y=>by rw[Ct hS,hcell]⟩;rw[hcell]at hy;cases ca:aO a x y with
   |true=>exact mV a1 ca
   |false=>
    cases cb:aO b x y with
    |true=>exact mV b1 cb
    |false=>rw[ca,cb,hk]at hy;cases hy
 ·simp at h
def Rw {α:Type} (a0:List α) (a1:Int) (a2:(α×Int×Unit)->Option Int):(Int×Int)->Option ((Int×Int) ⊕ Int)
 |(v1,v2)=>(bif (decide (v1 < (v2:Int)))then bif (decide (0<=1)&&decide (1<=IntKind.u64.bits))then (at? a0 (i64.wrap ((IntKind.u64.wrap (i64.wrap (v1+v2)))/2 ^ (1:Int).toNat))).bind fun x1=>(a2 (x1,a1,())).bind fun r1=>(bif (decide (r1 < (0:Int)))then some (.inl ((i64.wrap ((i64.wrap ((IntKind.u64.wrap (i64.wrap (v1+v2)))/2 ^ (1:Int).toNat))+1)),v2))else some (.inl (v1,(i64.wrap ((IntKind.u64.wrap (i64.wrap (v1+v2)))/2 ^ (1:Int).toNat)))))else none else some (.inr v1))
theorem YX {α:Type} {l:List α} {key:Int} {φ:(α×Int×Unit)->Option Int} (p:α->Bool) (f:α->Int) (hφ:∀ x,φ (x,key,())=some (f x)) (hf:∀ x,decide (f x < 0)=p x)
 (hm:∀ i j (hj:j < l.length) (hij:i < j),p l[j]=true->p (l[i]'(by omega))=true) (hl:l.length < 1099511627776):
 ∀ (m i j n:Nat),j - i<=m->i<=j->j<=l.length->(∀ k (hk:k < i) (hkl:k < l.length),p l[k]=true)->(∀ k (hk:j<=k) (hkl:k < l.length),p l[k]=false)->m < n->
 ∃ w:Nat,w<=l.length∧iter (Rw l key φ) n ((i:Int),(j:Int))=some (w:Int)∧(∀ k (hk:k < w) (hkl:k < l.length),p l[k]=true)∧∀ k (hk:w<=k) (hkl:k < l.length),p l[k]=false:=by
 intro m
 induction m with
 |zero=>
  intro i j n hm0 hij hjl h1 h2 hn;obtain⟨n,rfl⟩:∃ q,n=q+1:=⟨n - 1,by omega⟩;have:i=j:=by omega
  subst this;exact⟨i,hjl,aW (by simp[Rw]),h1,h2⟩
 |succ m ih=>
  intro i j n hm0 hij hjl h1 h2 hn;obtain⟨n,rfl⟩:∃ q,n=q+1:=⟨n - 1,by omega⟩;by_cases hlt:i < j
  ·have c:decide (((i:Nat):Int) < ((j:Nat):Int))=true:=(by simpa using hlt);have c1:(decide (0<=1)&&decide (1<=IntKind.u64.bits))=true:=rfl;have e:i64.wrap ((IntKind.u64.wrap (i64.wrap (((i:Nat):Int)+((j:Nat):Int))))/2 ^ (1:Int).toNat)=(((i+j)/2:Nat):Int):=by
    rw[Jv (by omega),kW (by omega),show ((((i+j:Nat):Int))/2 ^ (1:Int).toNat)=(((i+j)/2:Nat):Int)by
     rw[show (1:Int).toNat=1 from rfl,Int.pow_one];omega,kR (by omega)]
   have hh:(i+j)/2 < l.length:=(by omega);cases hp:p l[(i+j)/2]with
   |true=>
    have s:Rw l key φ ((i:Int),(j:Int))=some (.inl ((((i+j)/2+1:Nat):Int),(j:Int))):=by
     simp only[Rw,c,cond_true,c1,e,bn hh,bind_some,hφ,hf,hp];rw[ay (by omega)]
    rw[bU s];refine ih _ _ n (by omega) (by omega) hjl (fun k hk hkl=>?_) h2 (by omega);by_cases hk2:k < (i+j)/2
    ·exact hm k _ hh hk2 hp
    ·have:k=(i+j)/2:=(by omega);subst this;exact hp
   |false=>
    have s:Rw l key φ ((i:Int),(j:Int))=some (.inl ((i:Int),(((i+j)/2:Nat):Int))):=(by simp only[Rw,c,cond_true,c1,e,bn hh,bind_some,hφ,hf,hp,cond_false]);rw[bU s];refine ih _ _ n (by omega) (by omega) (by omega) h1 (fun k hk hkl=>?_) (by omega);by_cases hk2:(i+j)/2 < k
    ·cases hpk:p l[k]with
     |false=>rfl
     |true=>have:=hm _ k hkl hk2 hpk;rw[hp]at this;cases this
    ·have:k=(i+j)/2:=(by omega);subst this;exact hp
  ·have:i=j:=(by omega);subst this;exact⟨i,hjl,aW (by simp[Rw]),h1,h2⟩
theorem aex (l:List aF) (key:Int) (φ:(aF×Int×Unit)->Option Int):jf l key φ=Rw l key φ:=by funext ⟨a,b⟩;rfl
theorem aft (l:List ax) (key:Int) (φ:(ax×Int×Unit)->Option Int):jE l key φ=Rw l key φ:=by funext ⟨a,b⟩;rfl
theorem Rx:∀ {l:List aF},lD l->l.Pairwise (fun s t=>s.x1<=t.x0)∧∀ s∈l,s.x0 < s.x1
 |[],_=>⟨List.Pairwise.nil,by simp⟩
 |[s],h=>⟨by simp,fun t ht=>by have:t=s:=by simpa using ht
                               subst this;exact h⟩
 |s::t::l,h=>by
  obtain⟨h1,h2,h3⟩:=h;obtain⟨p1,p2⟩:=Rx h3;refine⟨?_,?_⟩
  ·rw[pairwise_cons];refine⟨fun u hu=>?_,p1⟩;rcases mem_cons.1 hu with rfl |hu
   ·omega
   ·have:=(pairwise_cons.1 p1).1 u hu;have:=p2 t (by simp);omega
  ·intro u hu;rcases mem_cons.1 hu with rfl |hu
   ·exact h1
   ·exact p2 u hu
theorem H8 {x:Int}:∀ {l:List aF},(∀ s∈l,¬ (s.x0<=x∧x < s.x1))->dU l x=[]
 |[],_=>rfl
 |s::l,h=>by
  have:=h s (by simp);rw[fE,show (decide (s.x0<=x)&&decide (x < s.x1))=false by rw[Bool.and_eq_false_iff,decide_eq_false_iff_not,decide_eq_false_iff_not];omega,cond_false];exact H8 fun t ht=>h t (by simp[ht])
theorem Vj {x:Int}:∀ {l:List aF} {w:Nat} (hw:w < l.length),(∀ k (hk:k < w),¬ ((l[k]'(by omega)).x0<=x∧x < (l[k]'(by omega)).x1))->l[w].x0<=x->x < l[w].x1->dU l x=l[w].column
 |[],w,hw,_,_,_=>by simp at hw
 |s::l,0,hw,_,h0,h1=>qz h0 h1
 |s::l,w+1,hw,hk,h0,h1=>by
  have hs:=hk 0 (by omega);simp only[List.getElem_cons_zero]at hs;rw[fE,show (decide (s.x0<=x)&&decide (x < s.x1))=false by rw[Bool.and_eq_false_iff,decide_eq_false_iff_not,decide_eq_false_iff_not];omega,cond_false];exact Vj (by simpa using hw) (fun k hk'=>by have:=hk (k+1) (by omega);simpa using this) h0 h1
theorem YZ {n:Nat} {l:List aF} {x:Int} (h:lD l) (hl:l.length < 1099511627776) (hn:l.length < n):Ro n l x=some (dU l x):=by
 obtain⟨a1,a2⟩:=Rx h;rw[List.pairwise_iff_getElem]at a1
 have run:=YX (l:=l) (key:=x) (φ:=fun (y1:aF×Int×Unit)=>tV y1.1 y1.2.1) (fun s=>decide (s.x1<=x)) (fun s=>if s.x1<=x then -1 else 1)
  (fun s=>by show tV s x=_;unfold tV;by_cases c:s.x1<=x<;>simp[c]) (fun s=>by by_cases c:s.x1<=x<;>simp[c])
  (fun i j hj hij hp=>by
   rw[decide_eq_true_eq]at hp ⊢;have:=a1 i j (by omega) hj hij;have:=a2 l[j] (getElem_mem _);omega) hl l.length 0 l.length n (by omega) (by omega) (Nat.le_refl _) (fun k hk=>by omega) (fun k hk hkl=>by omega) hn
 obtain⟨w,hw,e,h1,h2⟩:=run;unfold Ro fO;rw[aex];have e':iter (Rw l x fun (y1:aF×Int×Unit)=>tV y1.1 y1.2.1) n ((0:Int),((l.length:Nat):Int))=some (w:Int):=e;rw[e'];simp only[bind_some];have tail:∀ b:Int,∃ bb,((bif (decide ((w:Int) < ((l.length:Int):Int)))then (at? l (w:Int)).bind fun x2=>(tV x2 x).bind fun r2=>some ((w:Int),(r2==b))else some ((w:Int),false)):Option (Int×Bool))=some ((w:Int),bb):=by
  intro b;by_cases c:w < l.length
  ·have d:decide ((w:Int) < (l.length:Int))=true:=(by simpa using c);rw[d,cond_true,bn c,bind_some];unfold tV;cases decide (l[w].x1<=x)<;>exact⟨_,rfl⟩
  ·have d:decide ((w:Int) < (l.length:Int))=false:=(by simp;omega);rw[d];exact⟨_,rfl⟩
 obtain⟨bb,hbb⟩:=tail 0;rw[hbb,bind_some];simp only[];by_cases c:w < l.length
 ·have d:decide ((w:Int) < (l.length:Int))=true:=by simpa using c
  simp only[d,cond_true,bn c,bind_some];have hx1:=h2 w (Nat.le_refl _) c;rw[decide_eq_false_iff_not]at hx1;by_cases c2:l[w].x0<=x
  ·simp only[c2,decide_true,cond_true];rw[Vj c (fun k hk hh=>?_) c2 (by omega)];have:=h1 k hk (by omega);rw[decide_eq_true_eq]at this;omega
  ·simp only[c2,decide_false,cond_false];rw[H8 fun s hs hh=>?_];obtain⟨k,hk,rfl⟩:=mem_iff_getElem.1 hs;rcases Nat.lt_trichotomy k w with hkw |rfl |hkw
   ·have:=h1 k hkw hk;rw[decide_eq_true_eq]at this;omega
   ·omega
   ·have:=a1 w k c hk hkw;have:=a2 l[w] (getElem_mem _);omega
 ·have d:decide ((w:Int) < (l.length:Int))=false:=by simp;omega
  simp only[d,cond_false,bind_some];rw[H8 fun s hs hh=>?_];obtain⟨k,hk,rfl⟩:=mem_iff_getElem.1 hs;have:=h1 k (by omega) hk;rw[decide_eq_true_eq]at this;omega
theorem J4 {n:Nat} {l:List ax} {y:Int} (h:Can l) (hl:l.length < 1099511627776) (hn:l.length < n):AZ n l y=some (inS l y):=by
 obtain⟨a1,a2⟩:=h;rw[List.pairwise_iff_getElem]at a1
 have run:=YX (l:=l) (key:=y) (φ:=fun (y1:ax×Int×Unit)=>jg y1.1 y1.2.1) (fun s=>decide (s.to<=y)) (fun s=>if s.to<=y then -1 else 1)
  (fun s=>by show jg s y=_;unfold jg;by_cases c:s.to<=y<;>simp[c]) (fun s=>by by_cases c:s.to<=y<;>simp[c])
  (fun i j hj hij hp=>by
   rw[decide_eq_true_eq]at hp ⊢;have:=a1 i j (by omega) hj hij;have:l[j].from_ < l[j].to:=a2 l[j] (getElem_mem _);omega) hl l.length 0 l.length n (by omega) (by omega) (Nat.le_refl _) (fun k hk=>by omega) (fun k hk hkl=>by omega) hn
 obtain⟨w,hw,e,h1,h2⟩:=run;unfold AZ gF;rw[aft];have e':iter (Rw l y fun (y1:ax×Int×Unit)=>jg y1.1 y1.2.1) n ((0:Int),((l.length:Nat):Int))=some (w:Int):=e;rw[e'];simp only[bind_some];have tail:∀ b:Int,∃ bb,((bif (decide ((w:Int) < ((l.length:Int):Int)))then (at? l (w:Int)).bind fun x2=>(jg x2 y).bind fun r2=>some ((w:Int),(r2==b))else some ((w:Int),false)):Option (Int×Bool))=some ((w:Int),bb):=by
  intro b;by_cases c:w < l.length
  ·have d:decide ((w:Int) < (l.length:Int))=true:=(by simpa using c);rw[d,cond_true,bn c,bind_some];unfold jg;cases decide (l[w].to<=y)<;>exact⟨_,rfl⟩
  ·have d:decide ((w:Int) < (l.length:Int))=false:=(by simp;omega);rw[d];exact⟨_,rfl⟩
 obtain⟨bb,hbb⟩:=tail 0;rw[hbb,bind_some];simp only[];by_cases c:w < l.length
 ·have d:decide ((w:Int) < (l.length:Int))=true:=by simpa using c
  simp only[d,cond_true,bn c,bind_some];have hx1:=h2 w (Nat.le_refl _) c;rw[decide_eq_false_iff_not]at hx1;congr 1;rw[Bool.eq_iff_iff,decide_eq_true_eq,jI];constructor
  ·exact fun hf=>⟨l[w],getElem_mem _,hf,by omega⟩
  ·rintro⟨s,hs,g1,g2⟩;obtain⟨k,hk,rfl⟩:=mem_iff_getElem.1 hs;rcases Nat.lt_trichotomy k w with hkw |rfl |hkw
   ·have:=h1 k hkw hk;rw[decide_eq_true_eq]at this;omega
   ·exact g1
   ·have:=a1 w k c hk hkw;omega
 ·have d:decide ((w:Int) < (l.length:Int))=false:=by simp;omega
  simp only[d,cond_false];congr 1;symm;cases hh:inS l y with
  |false=>rfl
  |true=>
   obtain⟨s,hs,g1,g2⟩:=(jI _ _).1 hh;obtain⟨k,hk,rfl⟩:=mem_iff_getElem.1 hs;have:=h1 k (by omega) hk;rw[decide_eq_true_eq]at this;omega
theorem J5 {n:Nat} {l:List (List ax)} (hf:l.flatten.length < 1099511627776) (hl:l.length < 1099511627776) (hn:l.length < n):xu n l=some l.flatten:=Jt (ax.mk 0 0) (b:=16) hf (by omega) hl hn
theorem J6 (l:List ax):(l.flatMap fun r=>[r.from_,r.to]).length=2*l.length:=by
 induction l with
 |nil=>rfl
 |cons x l ih=>simp only[List.flatMap_cons,length_append,ih,length_cons,length_nil];omega
theorem Oi {n:Nat} {l:List ax} (hl:l.length < 10995116277) (hn:l.length < n):iter (tX l) n ((0:Int),([]:List Int))=some (l.flatMap fun r=>[r.from_,r.to]):=by
 have:=bD (l:=l) (step:=tX l) (fun i (s:List Int)=>((i:Int),s)) (fun r s=>s++[r.from_,r.to]) (fun s=>s) (fun i s=>s.length<=2*i)
  (fun i hi s hs=>?_) (fun s hs=>by simp[tX]) n hn [] (Nat.le_refl _)
 ·rw[show ((0:Nat):Int)=0 from rfl]at this;rw[this];have gen:∀ (ys:List ax) (s:List Int),ys.foldl (fun s r=>s++[r.from_,r.to]) s=s++ys.flatMap fun r=>[r.from_,r.to]:=by
   intro ys
   induction ys with
   |nil=>intro s;simp
   |cons y ys ih=>intro s;simp[ih]
  congr 1;simpa using gen l []
 ·have hi':decide (((i:Nat):Int) < ((l.length:Nat):Int))=true:=by simpa using hi
  have ap:bq s.length s.length (sub ([l[i].from_,l[i].to]:List Int) 0 2).length 2 8=true:=bf (n:=2) (by omega) (by simp only[maxLen];omega);simp only[tX,hi',cond_true,aZ hi,bL hi,bind_some,ap,dw,aC];refine⟨?_,by simp;omega⟩;rw[ay (by omega)];rfl
theorem H9 {α β:Type} (p:α->Bool) (f:β->α->β):∀ (l:List α) (s:β),(l.filter p).foldl f s=l.foldl (fun s x=>bif p x then f s x else s) s
 |[],s=>rfl
 |x::l,s=>by
  rw[List.filter_cons,foldl_cons];cases h:p x with
  |true=>simp only[if_true,foldl_cons,cond_true];exact H9 p f l _
  |false=>simp only[Bool.false_eq_true,if_false,cond_false];exact H9 p f l _
theorem Ry (out:List ax) (p:ax):(ext out p).length<=out.length+1:=by
 unfold ext;cases out.getLast? with
 |none=>simp
 |some q=>simp only;cases q.to==p.from_<;>simp<;>omega
theorem Rz (a b:List ax):(ysL a b).length<=2*(a.length+b.length):=by
 have h:=kT (iw (fun a b=>decide (a < b)) ((a++b).flatMap fun r=>[r.from_,r.to]));rw[bC,J6,length_append]at h;exact h
theorem TH (keep:Bool->Bool->Bool) (a b:List ax):(jY keep a b).length<=2*(a.length+b.length):=by
 have gen:∀ (ys out:List ax),(ys.foldl ext out).length<=out.length+ys.length:=by
  intro ys
  induction ys with
  |nil=>intro out;simp
  |cons y ys ih=>
   intro out;simp only[foldl_cons,length_cons];have:=ih (ext out y);have:=Ry out y;omega
 have h:=gen ((dN ax.mk (ysL a b)).filter fun p=>keep (inS a p.from_) (inS b p.from_)) [];have h2:=length_filter_le (fun p=>keep (inS a p.from_) (inS b p.from_)) (dN ax.mk (ysL a b));have h3:=(kJ ax.mk (ysL a b)).1;have h4:=Rz a b;simp only[length_nil]at h;unfold jY;omega
theorem Y0 {n:Nat} {keep:Bool->Bool->Bool} {φ:(Bool×Bool×Unit)->Option Bool} (hφ:∀ p q,φ (p,q,())=some (keep p q)) {a b:List ax} (ha:Can a) (hb:Can b) (hl:a.length+b.length < 1099511627) (hn:2*(a.length+b.length)+2 < n):EL n a b φ=some (jY keep a b):=by
 have fl:[a,b].flatten=a++b:=by simp
 have s2:(sub ([a,b]:List (List ax)) 0 2)=[a,b]:=rfl;have q2:eqL ([a,b]:List (List ax)).length 2=true:=rfl;have hys:=Rz a b;have hfl:((a++b).flatMap fun r=>[r.from_,r.to]).length=2*(a.length+b.length):=by rw[J6,length_append]
 unfold EL;rw[s2,q2,cond_true,J5 (by rw[fl,length_append];omega) (by simp) (by simp;omega),fl];simp only[bind_some,length_nil,aC,cond_true,Oi (l:=a++b) (n:=n) (by rw[length_append];omega) (by rw[length_append];omega)];rw[jV (by rw[hfl];omega) (by rw[hfl];omega)];simp only[bind_some,bC,aC,cond_true];rw[ji (by rw[bC,hfl];omega) (by rw[bC,hfl];omega)];simp only[bind_some];have hE:dS (iw ltI ((a++b).flatMap fun r=>[r.from_,r.to]))=ysL a b:=rfl;rw[hE];obtain⟨p1,p2⟩:=kJ ax.mk (ysL a b);have key:iter (tY n a b φ ((),ysL a b)) n ((1:Int),([]:List ax))=some (jY keep a b):=by
  have:=bD (l:=dN ax.mk (ysL a b)) (step:=tY n a b φ ((),ysL a b)) (fun i (s:List ax)=>(((i+1:Nat):Int),s)) (fun p s=>bif keep (inS a p.from_) (inS b p.from_)then ext s p else s) (fun s=>s) (fun i s=>s.length<=i)
   (fun i hi s hs=>?_) (fun s hs=>?_) n (by omega) [] (Nat.le_refl _)
  ·rw[show ((0+1:Nat):Int)=1 from rfl]at this;rw[this,jY,H9]
  ·have hi2:i+1 < (ysL a b).length:=(by omega);have hi1:i < (ysL a b).length:=(by omega);have d:decide (((i+1:Nat):Int) < (((ysL a b).length:Nat):Int))=true:=(by simp;omega);have wp:i64.wrap (((i+1:Nat):Int) - 1)=((i:Nat):Int):=(by rw[gV (by omega) (by omega)];rfl);have pe:(dN ax.mk (ysL a b))[i]=ax.mk (ysL a b)[i] (ysL a b)[i+1]:=p2 i hi2 hi;rw[pe];have lx:=Ry s (ax.mk (ysL a b)[i] (ysL a b)[i+1]);have ap:bq s.length s.length (sub ([(ax.mk (ysL a b)[i] (ysL a b)[i+1])]:List ax) 0 1).length 1 16=true:=bf (n:=1) (by omega) (by simp only[maxLen];omega);have sb:(sub ([(ax.mk (ysL a b)[i] (ysL a b)[i+1])]:List ax) 0 1)=[ax.mk (ysL a b)[i] (ysL a b)[i+1]]:=rfl;refine⟨?_,by cases keep (inS a (ysL a b)[i]) (inS b (ysL a b)[i])<;>simp only[cond_true,cond_false]<;>omega⟩;simp only[tY,d,cond_true,wp,aZ hi1,bL hi1,bind_some,J4 (n:=n) ha (show a.length < 1099511627776 by omega) (show a.length < n by omega),J4 (n:=n) hb (show b.length < 1099511627776 by omega) (show b.length < n by omega),hφ];cases hk:keep (inS a (ysL a b)[i]) (inS b (ysL a b)[i])with
   |false=>
    simp only[Bool.not_false,cond_true,aC,bind_some,cond_false];rw[ay (by omega)]
   |true=>
    simp only[Bool.not_true,cond_false,cond_true];rcases List.eq_nil_or_concat s with rfl |⟨s0,q,hsq⟩
    ·have d0:decide (((([]:List ax).length:Nat):Int)>0)=false:=(by simp);simp only[d0,cond_false,bind_some,aZ hi2,bL hi2,cond_true,ap,dw,aC];rw[ay (by omega)];rfl
    ·rw[List.concat_eq_append]at hsq;subst hsq;have d0:decide (((((s0++[q]).length:Nat):Int))>0)=true:=(by simp<;>omega);have lenq:(s0++[q]).length=s0.length+1:=(by simp);have wq:i64.wrap ((((s0++[q]).length:Nat):Int) - 1)=((s0.length:Nat):Int):=(by rw[gV (by simp) (by omega),lenq];rfl);have ib2:inb ((s0.length:Nat):Int) (s0++[q]).length=true:=aZ (by omega);have g:at? (s0++[q]) (((0:Nat):Int)+((s0.length:Nat):Int))=some q:=(by rw[ow];simp);have z:(((0:Nat):Int)+((s0.length:Nat):Int)).toNat=s0.length:=(by simp);have st:(s0++[q]).set s0.length (ax.mk q.from_ (ysL a b)[i+1])=s0++[⟨q.from_,(ysL a b)[i+1]⟩]:=(by simp);simp only[d0,cond_true,wq,ib2,g,bind_some,H7];cases hj:q.to==(ysL a b)[i]with
     |true=>
      simp only[cond_true,aZ hi2,bL hi2,bind_some,z,st];have e:eqL (s0++[q]).length (s0++[(⟨q.from_,(ysL a b)[i+1]⟩:ax)]).length=true:=(by simp);simp only[e,cond_true,bind_some,aC];rw[ay (by omega)]
     |false=>
      rw[sb]at ap;simp only[cond_false,aZ hi2,bL hi2,bind_some,cond_true,sb,ap,dw,aC];rw[ay (by omega)]
  ·have d:decide ((((dN ax.mk (ysL a b)).length+1:Nat):Int) < (((ysL a b).length:Nat):Int))=false:=(by simp;omega);simp only[tY,d,cond_false,aC,cond_true]
 rw[key];simp only[bind_some,bB,aC,cond_true]
theorem Ba (keep:Bool->Bool->Bool) (a b:List aj):lI keep a b=(aD (a++b)).map fun s=>⟨s.x0,s.x1,jY keep (aL a s.x0) (aL b s.x0)⟩:=by
 have gen:∀ es:List Int,dN (fun x x'=>(⟨x,x',jY keep (aL a x) (aL b x)⟩:aF)) es=(dN (fun x x'=>(⟨x,x',aL (a++b) x⟩:aF)) es).map fun s=>⟨s.x0,s.x1,jY keep (aL a s.x0) (aL b s.x0)⟩:=by
  intro es
  match es with
  |[]=>rfl
  |[_]=>rfl
  |x::y::l=>
   rw[jm,jm,map_cons];congr 1;have:∀ es:List Int,dN (fun x x'=>(⟨x,x',jY keep (aL a x) (aL b x)⟩:aF)) es=(dN (fun x x'=>(⟨x,x',aL (a++b) x⟩:aF)) es).map fun s=>⟨s.x0,s.x1,jY keep (aL a s.x0) (aL b s.x0)⟩:=by
    intro es
    induction es with
    |nil=>rfl
    |cons x es ih=>
     cases es with
     |nil=>rfl
     |cons y es=>rw[jm,jm,map_cons,ih]
   exact this (y::l)
 exact gen (aK (a++b))
theorem TI {n:Nat} {keep:Bool->Bool->Bool} {φ:(Bool×Bool×Unit)->Option Bool} (hφ:∀ p q,φ (p,q,())=some (keep p q)) {a b:List aj} (ha:a.length < 1099511627776) (hb:b.length < 1099511627776) (hna:a.length < n) (hnb:b.length < n) (hn:1000<=n):Cs n a b φ=some (oh keep a b):=by
 unfold Cs oh;rw[l6 ha hna hn,bind_some];cases hra:rightL a with
 |false=>rfl
 |true=>
  rw[l6 hb hnb hn];simp only[Bool.not_true,cond_false,bind_some,Bool.true_and];cases hrb:rightL b with
  |false=>rfl
  |true=>
   obtain⟨a1,a2,_⟩:=bV hra;obtain⟨b1,b2,_⟩:=bV hrb;have fa:[a].flatten=a:=(by simp);have fb:[b].flatten=b:=(by simp);have fab:[a,b].flatten=a++b:=(by simp);have hab:∀ r∈a++b,OkR r=true:=fun r hr=>by
    rcases mem_append.1 hr with hr |hr
    ·exact a1 r hr
    ·exact b1 r hr
   have sa:kY n [a]=some (aD a):=by
    have:=vR (n:=n) (ls:=[a]) (by rw[fa];exact a1) (by rw[fa];omega) (by simp) (by rw[fa];omega) (by simp;omega)
    rwa [fa]at this
   have sb:kY n [b]=some (aD b):=by
    have:=vR (n:=n) (ls:=[b]) (by rw[fb];exact b1) (by rw[fb];omega) (by simp) (by rw[fb];omega) (by simp;omega)
    rwa [fb]at this
   have lab:(a++b).length=a.length+b.length:=length_append;have sab:kY n [a,b]=some (aD (a++b)):=by
    have:=vR (n:=n) (ls:=[a,b]) (by rw[fab];exact hab) (by rw[fab,lab];omega) (by simp) (by rw[fab,lab];omega) (by simp;omega)
    rwa [fab]at this
   have e1:(sub ([a]:List (List aj)) 0 1)=[a]:=rfl;have e2:(sub ([b]:List (List aj)) 0 1)=[b]:=rfl;have e3:(sub ([a,b]:List (List aj)) 0 2)=[a,b]:=rfl;have q1:eqL ([a]:List (List aj)).length 1=true:=rfl;have q2:eqL ([b]:List (List aj)).length 1=true:=rfl;have q3:eqL ([a,b]:List (List aj)).length 2=true:=rfl;have la:=qy a;have lb:=qy b;have lS:=qy (a++b);rw[lab]at lS;have mc:∀ x,(aL a x).length<=200∧(aL b x).length<=200:=fun x=>⟨Nat.le_trans (qx a x) a2,Nat.le_trans (qx b x) b2⟩;have lm:∀ x,(jY keep (aL a x) (aL b x)).length<=800:=fun x=>by
    have:=TH keep (aL a x) (aL b x);have:=mc x;omega
   have key:iter (nY n φ (aD a) (aD b) (aD (a++b))) n ((0:Int),aD (a++b))=some (lI keep a b):=by
    have:=fG (step:=nY n φ (aD a) (aD b) (aD (a++b))) (fun i=>(((i:Nat):Int),(lI keep a b).take i++(aD (a++b)).drop i)) (aD (a++b)).length (lI keep a b) (fun i hi=>?_) ?_ n (by omega)
    ·simpa using this
    ·have d:decide (((i:Nat):Int) < (((aD (a++b)).length:Nat):Int))=true:=(by simpa using hi);have lc:(lI keep a b).length=(aD (a++b)).length:=(by rw[Ba,length_map]);have lt:((lI keep a b).take i).length=i:=(by rw[length_take];omega);have hd:(aD (a++b)).drop i=(aD (a++b))[i]::(aD (a++b)).drop (i+1):=drop_eq_getElem_cons hi;have g:at? ((lI keep a b).take i++(aD (a++b)).drop i) (((0:Nat):Int)+((i:Nat):Int))=some (aD (a++b))[i]:=(by rw[ow,List.getElem?_append_right (by omega),lt,hd];simp);have st:∀ s:aF,((lI keep a b).take i++(aD (a++b)).drop i).set i s=(lI keep a b).take i++s::(aD (a++b)).drop (i+1):=by
      intro s;rw[set_append_right _ _ (by omega),lt,hd,Nat.sub_self];rfl
     have z:(((0:Nat):Int)+((i:Nat):Int)).toNat=i:=(by simp);have tk:(lI keep a b).take (i+1)=(lI keep a b).take i++[⟨(aD (a++b))[i].x0,(aD (a++b))[i].x1,jY keep (aL a (aD (a++b))[i].x0) (aL b (aD (a++b))[i].x0)⟩]:=by
      rw[take_succ_eq_append_getElem (by omega)];congr 2;simp only[Ba,List.getElem_map]
     have hm:=mc (aD (a++b))[i].x0;have mg:EL n (aL a (aD (a++b))[i].x0) (aL b (aD (a++b))[i].x0) φ=some (jY keep (aL a (aD (a++b))[i].x0) (aL b (aD (a++b))[i].x0)):=
      Y0 hφ (cZ a1 _).1 (cZ b1 _).1 (by omega) (by omega)
     have at1:Ro n (aD a) (aD (a++b))[i].x0=some (aL a (aD (a++b))[i].x0):=(by rw[YZ (fQ a) (by omega) (by omega),jC]);have at2:Ro n (aD b) (aD (a++b))[i].x0=some (aL b (aD (a++b))[i].x0):=(by rw[YZ (fQ b) (by omega) (by omega),jC]);simp only[nY,d,cond_true,aZ hi,g,bind_some,bB,at1,at2,mg,aC,z,st];rw[ay (by omega),tk,append_assoc];rfl
    ·have lc:(lI keep a b).length=(aD (a++b)).length:=(by rw[Ba,length_map]);have d:decide ((((aD (a++b)).length:Nat):Int) < (((aD (a++b)).length:Nat):Int))=false:=(by simp);simp only[nY,d,cond_false,List.drop_length,append_nil];rw[List.take_of_length_le (by omega)]
   have lc:(lI keep a b).length=(aD (a++b)).length:=(by rw[Ba,length_map]);have cc:∀ s∈lI keep a b,s.column.length<=800:=by
    intro s hs;rw[Ba,mem_map]at hs;obtain⟨t,_,rfl⟩:=hs;exact lm _
   have sl:sub (lI keep a b) 0 (aD (a++b)).length=lI keep a b:=(by rw[<- lc,bB]);simp only[Bool.not_true,cond_false,e1,e2,e3,q1,q2,q3,cond_true,sa,sb,sab,bind_some,bB,aC,key,sl,lc];rw[Nw (b:=800) (by omega) (by omega) cc (by omega) (by omega)];simp only[bind_some,bB,aC,cond_true,xg,if_true,Bool.and_self];by_cases h200:(aR (lI keep a b)).length>200
   ·have:decide (((aR (lI keep a b)).length:Int)>200)=true:=(by simp;omega);simp only[this,cond_true,bind_some,h200,if_true]
   ·have:decide (((aR (lI keep a b)).length:Int)>200)=false:=(by simp;omega);simp only[this,cond_false,bind_some,h200,if_false]
theorem Y1 {n:Nat} {a b:List aj} (ha:a.length < 1099511627776) (hb:b.length < 1099511627776) (hna:a.length < n) (hnb:b.length < n) (hn:1000<=n):JX n a b=some (oh (fun p q=>p&&!q) a b):=by
 unfold JX;rw[TI (keep:=fun p q=>p&&!q) (fun p q=>by show yV p q=_;unfold yV;cases p<;>rfl) ha hb hna hnb hn];rfl
def lF (r:aj) (x y:Int):Bool:=(decide (r.x0<=x)&&decide (x < r.x1))&&(decide (r.y0<=y)&&decide (y < r.y1))
abbrev ltY (a b:aj):Bool:=decide (a.y0 < b.y0)
theorem Pe:Go.Sort.SWO ltY where
 irrefl x:=by simp[ltY]
 trans x y z h1 h2:=by simp only[ltY,decide_eq_true_eq]at *;omega
 ntrans x y z h1 h2:=by simp only[ltY,decide_eq_false_iff_not]at *;omega
instance:Inhabited aj:=⟨aj.mk 0 0 0 0⟩
theorem ac1 (n:Nat) (rc:List aj->Int->Int->Int->((aj×aj×Unit)->Option Int)->Option (List aj)) (φ:(aj×aj×Unit)->Option Int) (l:List aj) (a b d:Int):fI n rc l a b d φ=iA (fun x y=>φ (x,y,())) (fun r=>decide (r < 0)) aN aQ n (fun l a b d=>rc l a b d φ) l a b d:=by kernel_rfl
theorem Vk (n:Nat) (φ:(aj×aj×Unit)->Option Int):∀ m l a b d,cu n m l a b d φ=fC (fun x y=>φ (x,y,())) (fun r=>decide (r < 0)) aN aQ n m l a b d
 | 0,l,a,b,d=>rfl
 |m+1,l,a,b,d=>by
  have e:(fun l a b d=>cu n m l a b d φ)=fC (fun x y=>φ (x,y,())) (fun r=>decide (r < 0)) aN aQ n m:=by
   funext l a b d;exact Vk n φ m l a b d
  show fI n (cu n m) l a b d φ=iA (fun x y=>φ (x,y,())) (fun r=>decide (r < 0)) aN aQ n (fC (fun x y=>φ (x,y,())) (fun r=>decide (r < 0)) aN aQ n m) l a b d;rw[<- e];exact ac1 n (cu n m) φ l a b d
theorem Ga {n:Nat} {l:List aj} {φ:(aj×aj×Unit)->Option Int} (f:aj->aj->Int) (hφ:∀ x y,φ (x,y,())=some (f x y)) (hf:∀ x y,decide (f x y < 0)=ltY x y) (hl:l.length < 1099511627776) (hn:l.length < n):mR n l φ=some (wV ltY l):=by
 unfold mR kH;rw[kW (by omega),yX (by omega)];simp only[bind_some,aC,cond_true,Vk];rw[wW (lt:=ltY) Pe (f:=f) (q:=fun r=>decide (r < 0)) hφ hf aen aeo (by omega) hn hn];rfl
def J7 (r:aj):ax:=⟨r.y0,r.y1⟩
theorem Y2 (x0 x1:Int) (c:List ax):(aA x0 x1 c).map J7=c:=by
 unfold aA;rw[List.map_map];exact List.map_id'' (fun s=>rfl) c
theorem aU (x0 x1:Int) (c:List ax):(aA x0 x1 c).length=c.length:=by simp[aA]
theorem RA {x0 x1:Int} {c:List ax} {i:Nat} (h:i < c.length):at? (aA x0 x1 c) (i:Int)=some ⟨x0,c[i].from_,x1,c[i].to⟩:=by
 rw[bn (by rw[aU];exact h)];simp[aA]
theorem Vl {x0 x1:Int}:∀ {L:List aj},(∀ r∈L,r.x0=x0∧r.x1=x1)->L=aA x0 x1 (L.map J7)
 |[],_=>rfl
 |r::L,h=>by
  have h1:=h r mem_cons_self;have h2:=Vl (L:=L) fun q hq=>h q (mem_cons_of_mem _ hq);show r::L=⟨x0,r.y0,x1,r.y1⟩::aA x0 x1 (L.map J7);rw[<- h2];obtain⟨a,b,c,d⟩:=r;obtain⟨rfl,rfl⟩:=h1;rfl
def Cv (l:List aj) (x0 x1:Int):List ax:=(l.filter fun r=>decide (r.x0<=x0)&&decide (x1<=r.x1)).map J7
theorem RB (s t:aF) (h:s.column≠t.column):∀ (S:List aF) (x0 x1:Int) (c:List ax),xR x0 x1 c (S++[t,s])=xR x0 x1 c (S++[t])++aA s.x0 s.x1 s.column
 |[],x0,x1,c=>by
  simp only[nil_append,xR];split
  ·rename_i e;rw[if_neg (fun h'=>h (h'.trans e.symm))]
  ·rw[append_assoc]
 |a::S,x0,x1,c=>by
  simp only[List.cons_append,xR];split
  ·exact RB s t h S _ _ _
  ·rw[RB s t h S,append_assoc]
theorem LF (s t:aF) (h:s.column=t.column):∀ (S:List aF) (x0 x1:Int) (c:List ax),∃ pre x',xR x0 x1 c (S++[t])=pre++aA x' t.x1 t.column∧xR x0 x1 c (S++[t,s])=pre++aA x' s.x1 t.column
 |[],x0,x1,c=>by
  simp only[nil_append,xR];split
  ·rename_i e;refine⟨[],x0,by rw[e];rfl,?_⟩;rw[if_pos (h.trans e),e];rfl
  ·exact⟨aA x0 x1 c,t.x0,rfl,rfl⟩
 |a::S,x0,x1,c=>by
  simp only[List.cons_append,xR];split
  ·exact LF s t h S _ _ _
  ·obtain⟨pre,x',h1,h2⟩:=LF s t h S a.x0 a.x1 a.column;exact⟨aA x0 x1 c++pre,x',by rw[h1,append_assoc],by rw[h2,append_assoc]⟩
theorem RD (s t:aF) (h:s.column≠t.column) (S:List aF):aR (S++[t,s])=aR (S++[t])++aA s.x0 s.x1 s.column:=by
 cases S with
 |nil=>simp only[nil_append,aR,xR,if_neg h]
 |cons a S=>exact RB s t h S _ _ _
theorem NF (s t:aF) (h:s.column=t.column) (S:List aF):∃ pre x',aR (S++[t])=pre++aA x' t.x1 t.column∧aR (S++[t,s])=pre++aA x' s.x1 t.column:=by
 cases S with
 |nil=>exact⟨[],t.x0,rfl,by simp only[nil_append,aR,xR,if_pos h]⟩
 |cons a S=>exact LF s t h S _ _ _
def NG (P:List aF) (i:Nat):List aj:=match (P.take i).getLast? with
 |some s=>aA s.x0 s.x1 s.column
 |none=>[]
def unq (s:aM):ax:=⟨s.from_,s.to⟩
def cS (c:List aM):List ax:=c.map unq
def tS (s:aX):aF:=⟨s.x0,s.x1,cS s.column⟩
def Bb (d:Int) (c:List ax):List aM:=(c.filter fun s=>decide (s.from_+d < s.to - d)).map fun s=>⟨s.from_+d,s.to - d⟩
theorem aey (d:Int) (c:List ax):cS (Bb d c)=(c.filter fun s=>decide (s.from_+d < s.to - d)).map fun s=>⟨s.from_+d,s.to - d⟩:=by simp[cS,Bb,unq,Function.comp_def]
theorem Y3 {d:Int} (hd:0<=d) {c:List ax} (h:Can c):Can (cS (Bb d c)):=by
 rw[aey];refine⟨?_,fun s hs=>?_⟩
 ·rw[List.pairwise_map];refine (h.1.filter _).imp fun {a b} hab=>?_;show a.to - d < b.from_+d;omega
 ·obtain⟨t,ht,rfl⟩:=mem_map.1 hs;have:=(mem_filter.1 ht).2;simpa using this
theorem ab3 {d:Int} (hd:0<=d) {c:List ax} (h:Can c) (y:Int):inS (cS (Bb d c)) y=true↔∀ z,y - d<=z->z<=y+d->inS c z=true:=by
 rw[aey,jI];constructor
 ·rintro⟨s,hs,h1,h2⟩ z hz1 hz2;obtain⟨t,ht,rfl⟩:=mem_map.1 hs;have ht':=(mem_filter.1 ht).1;simp only at h1 h2;exact (jI c z).2 ⟨t,ht',by omega,by omega⟩
 ·intro hall;obtain⟨t,ht,h1,h2⟩:=(jI c (y - d)).1 (hall (y - d) (by omega) (by omega));by_cases hto:t.to<=y+d
  ·exfalso;obtain⟨u,hu,g1,g2⟩:=(jI c t.to).1 (hall t.to (by omega) hto);have ot:=h.2 t ht;obtain⟨i,hi,rfl⟩:=mem_iff_getElem.1 ht;obtain⟨j,hj,rfl⟩:=mem_iff_getElem.1 hu;have pw:=List.pairwise_iff_getElem.1 h.1;rcases Nat.lt_trichotomy i j with e |e |e
   ·have:=pw i j hi hj e;omega
   ·subst e;omega
   ·have:=pw j i hj hi e;omega
  ·refine⟨⟨t.from_+d,t.to - d⟩,mem_map.2 ⟨t,mem_filter.2 ⟨ht,?_⟩,rfl⟩,?_,?_⟩
   ·simp;omega
   ·show t.from_+d<=y;omega
   ·show y < t.to - d;omega
def LG (a b:List aM):List aM:=a.flatMap fun x=>(b.filter fun y=>decide (max x.from_ y.from_ < min x.to y.to)).map fun y=>⟨max x.from_ y.from_,min x.to y.to⟩
theorem J8 {a b:List aM} {s:aM}:s∈LG a b↔∃ x∈a,∃ y∈b,max x.from_ y.from_ < min x.to y.to∧s=⟨max x.from_ y.from_,min x.to y.to⟩:=by
 simp only[LG,mem_flatMap,mem_map,mem_filter,decide_eq_true_eq];constructor
 ·rintro⟨x,hx,y,⟨hy,h⟩,rfl⟩;exact⟨x,hx,y,hy,h,rfl⟩
 ·rintro⟨x,hx,y,hy,h,rfl⟩;exact⟨x,hx,y,⟨hy,h⟩,rfl⟩
theorem aaT (c:List aM) (y:Int):inS (cS c) y=true↔∃ s∈c,s.from_<=y∧y < s.to:=by
 rw[jI];constructor
 ·rintro⟨s,hs,h⟩;obtain⟨t,ht,rfl⟩:=mem_map.1 hs;exact⟨t,ht,h⟩
 ·rintro⟨s,hs,h⟩;exact⟨unq s,mem_map.2 ⟨s,hs,rfl⟩,h⟩
theorem aez (c:List aM):Can (cS c)↔c.Pairwise (fun a b=>a.to < b.from_)∧∀ s∈c,s.from_ < s.to:=by
 unfold Can cS;rw[List.pairwise_map];constructor
 ·rintro⟨h1,h2⟩;exact⟨h1,fun s hs=>h2 _ (mem_map.2 ⟨s,hs,rfl⟩)⟩
 ·rintro⟨h1,h2⟩;exact⟨h1,fun s hs=>by obtain⟨t,ht,rfl⟩:=mem_map.1 hs;exact h2 t ht⟩
theorem Y4 {a b:List aM} (ha:Can (cS a)) (hb:Can (cS b)):Can (cS (LG a b)):=by
 rw[aez]at*;refine⟨?_,fun s hs=>?_⟩
 ·unfold LG;rw[List.pairwise_flatMap];refine⟨fun x _=>?_,ha.1.imp fun {x x'} hx=>?_⟩
  ·rw[List.pairwise_map];refine (hb.1.filter _).imp fun {y y'} hy=>?_;show min x.to y.to < max x.from_ y'.from_;omega
  ·intro p hp q hq;obtain⟨y,_,rfl⟩:=mem_map.1 hp;obtain⟨y',_,rfl⟩:=mem_map.1 hq;show min x.to y.to < max x'.from_ y'.from_;omega
 ·obtain⟨x,_,y,_,h,rfl⟩:=J8.1 hs;exact h
theorem afu (a b:List aM) (y:Int):inS (cS (LG a b)) y=(inS (cS a) y&&inS (cS b) y):=by
 rw[Bool.eq_iff_iff,and_eq_true,aaT,aaT,aaT];constructor
 ·rintro⟨s,hs,h1,h2⟩;obtain⟨p,hp,q,hq,_,rfl⟩:=J8.1 hs;simp only at h1 h2;exact⟨⟨p,hp,by omega,by omega⟩,⟨q,hq,by omega,by omega⟩⟩
 ·rintro⟨⟨p,hp,h1,h2⟩,⟨q,hq,h3,h4⟩⟩;exact⟨_,J8.2 ⟨p,hp,q,hq,by omega,rfl⟩,by show max p.from_ q.from_<=y;omega,by show y < min p.to q.to;omega⟩
def Ia (F:List Int) (c:List aM):Prop:=Can (cS c)∧∀ s∈c,s.from_∈F
theorem LJ {α:Type} [DecidableEq α]:∀ {l m:List α},l.Pairwise (· ≠ ·)->(∀ x∈l,x∈m)->l.length<=m.length
 |[],_,_,_=>by simp
 |a::l,m,h,hm=>by
  have h1:=pairwise_cons.1 h;have:=LJ (l:=l) (m:=m.erase a) h1.2 fun x hx=>(List.mem_erase_of_ne (fun e=>h1.1 x hx e.symm)).2 (hm x (mem_cons_of_mem _ hx));have e:=List.length_erase_of_mem (hm a mem_cons_self);have p:=List.length_pos_of_mem (hm a mem_cons_self);rw[length_cons];omega
theorem RF {F:List Int} {c:List aM} (h:Ia F c):c.length<=F.length:=by
 obtain⟨h1,h2⟩:=h;rw[aez]at h1;have:=LJ (l:=c.map (·.from_)) (m:=F) (by
  rw[List.pairwise_map];refine (List.Pairwise.and_mem.1 h1.1).imp fun {a b} hab=>?_;have:=h1.2 a hab.1;have:=hab.2.2;omega) (fun x hx=>by obtain⟨s,hs,rfl⟩:=mem_map.1 hx;exact h2 s hs)
 simpa using this
theorem Vm {F:List Int} {a b:List aM} (ha:Ia F a) (hb:Ia F b):Ia F (LG a b):=by
 refine⟨Y4 ha.1 hb.1,fun s hs=>?_⟩;obtain⟨x,hx,y,hy,_,rfl⟩:=J8.1 hs;show max x.from_ y.from_∈F;have h1:=ha.2 x hx;have h2:=hb.2 y hy;rcases Int.le_total x.from_ y.from_ with h |h
 ·rw[Int.max_eq_right h];exact h2
 ·rw[Int.max_eq_left h];exact h1
def jF (x d:Int):List aX->Int->Bool->Bool->List aM->Int×Bool×List aM
 |[],nx,gap,_,out=>(nx,gap,out)
 |s::l,nx,gap,first,out=>
  bif gap || (decide (s.x1<=nx) || decide (s.x0>x+d))then jF x d l nx gap first out
  else bif decide (s.x0>nx)then jF x d l nx true first out
  else bif first then jF x d l s.x1 gap false s.column else jF x d l s.x1 gap false (LG out s.column)
def Ib (l:List aX) (x d:Int):List aM:=
 bif (jF x d l (x - d) false true []).2.1 || decide ((jF x d l (x - d) false true []).1<=x+d)then []else (jF x d l (x - d) false true []).2.2
def WV (x d:Int) (r:Int×Bool×List aM):List aM:=bif r.2.1 || decide (r.1<=x+d)then []else r.2.2
theorem afv (l:List aX) (x d:Int):Ib l x d=WV x d (jF x d l (x - d) false true []):=rfl
theorem Vn (x d:Int):∀ (l:List aX) (nx:Int) (f:Bool) (out:List aM),(jF x d l nx true f out).2.1=true
 |[],_,_,_=>rfl
 |s::l,nx,f,out=>by
  simp only[jF,Bool.true_or,cond_true];exact Vn x d l nx f out
def Y5 (l:List aX):Prop:=l.Pairwise (fun s t=>s.x1<=t.x0)∧∀ s∈l,s.x0 < s.x1∧Can (cS s.column)
theorem aaU {s:aX} {l:List aX} (h:Y5 (s::l)):Y5 l:=⟨(pairwise_cons.1 h.1).2,fun t ht=>h.2 t (mem_cons_of_mem _ ht)⟩
def jD (l:List aX) (x:Int):List ax:=dU (l.map tS) x
theorem Vo {s:aX} {l:List aX} {x:Int} (h1:s.x0<=x) (h2:x < s.x1):jD (s::l) x=cS s.column:=by simp[jD,dU,tS,h1,h2]
theorem Cw {s:aX} {l:List aX} {x:Int} (h:x < s.x0∨s.x1<=x):jD (s::l) x=jD l x:=by
 have:(decide (s.x0<=x)&&decide (x < s.x1))=false:=by rw[Bool.and_eq_false_iff];simp;omega
 simp[jD,dU,tS,this]
theorem ET:∀ {l:List aX} {x:Int},(∀ s∈l,x < s.x0∨s.x1<=x)->jD l x=[]
 |[],_,_=>rfl
 |s::l,x,h=>by
  rw[Cw (h s mem_cons_self)];exact ET fun t ht=>h t (mem_cons_of_mem _ ht)
theorem Ic (x d:Int):∀ (l:List aX),Y5 l->∀ (nx:Int) (first:Bool) (out:List aM),
 (first=true->nx<=x+d)->(first=false->Can (cS out)∧∀ s∈l,nx<=s.x0)->
 Can (cS (WV x d (jF x d l nx false first out)))∧
 ∀ y,inS (cS (WV x d (jF x d l nx false first out))) y=true↔(first=false->inS (cS out) y=true)∧∀ z,nx<=z->z<=x+d->inS (jD l z) y=true
 |[],_,nx,first,out,h1,h2=>by
  have e0:jF x d [] nx false first out=(nx,false,out):=rfl
  rw[e0];have e1:WV x d (nx,false,out)=bif decide (nx<=x+d)then []else out:=by simp[WV]
  rw[e1];by_cases hn:nx<=x+d
  ·have:decide (nx<=x+d)=true:=(by simpa using hn);simp only[this,cond_true];refine⟨vQ,fun y=>⟨fun h=>by simp[cS,inS]at h,fun h=>?_⟩⟩;have:=h.2 nx (Int.le_refl _) hn;simp[jD,dU,inS]at this
  ·have:decide (nx<=x+d)=false:=(by simpa using hn);simp only[this,cond_false];cases first with
   |true=>exact absurd (h1 rfl) hn
   |false=>
    refine⟨(h2 rfl).1,fun y=>⟨fun h=>⟨fun _=>h,fun z hz1 hz2=>by omega⟩,fun h=>h.1 rfl⟩⟩
 |s::l,hs,nx,first,out,h1,h2=>by
  have hl:=aaU hs;obtain⟨hs0,hsc⟩:=hs.2 s mem_cons_self;have hb:=(pairwise_cons.1 hs.1).1;simp only[jF,Bool.false_or];by_cases c1:s.x1<=nx∨s.x0>x+d
  ·have e:(decide (s.x1<=nx) || decide (s.x0>x+d))=true:=(by simpa using c1);simp only[e,cond_true];obtain⟨g1,g2⟩:=Ic x d l hl nx first out h1 fun hf=>⟨(h2 hf).1,fun t ht=>(h2 hf).2 t (mem_cons_of_mem _ ht)⟩
   refine⟨g1,fun y=>?_⟩;rw[g2];have:∀ z,nx<=z->z<=x+d->jD (s::l) z=jD l z:=fun z hz1 hz2=>Cw (by omega);constructor
   ·rintro⟨a,b⟩;exact⟨a,fun z hz1 hz2=>by rw[this z hz1 hz2];exact b z hz1 hz2⟩
   ·rintro⟨a,b⟩;exact⟨a,fun z hz1 hz2=>by rw[<- this z hz1 hz2];exact b z hz1 hz2⟩
  ·have e:(decide (s.x1<=nx) || decide (s.x0>x+d))=false:=(by rw[Bool.or_eq_false_iff,decide_eq_false_iff_not,decide_eq_false_iff_not];omega);simp only[e,cond_false];by_cases c2:s.x0>nx
   ·have e2:decide (s.x0>nx)=true:=(by simpa using c2);simp only[e2,cond_true];have wn:WV x d (jF x d l nx true first out)=[]:=by
     unfold WV;rw[Vn];rfl
    rw[wn];refine⟨vQ,fun y=>⟨fun h=>by simp[cS,inS]at h,fun h=>?_⟩⟩;have:=h.2 nx (Int.le_refl _) (by omega);rw[ET (fun t ht=>?_)]at this
    ·simp[inS]at this
    ·rcases mem_cons.1 ht with rfl |ht
     ·left;omega
     ·left;have:=hb t ht;omega
   ·have e2:decide (s.x0>nx)=false:=(by simpa using c2);simp only[e2,cond_false]
    have key:∀ out',Can (cS out')->Can (cS (WV x d (jF x d l s.x1 false false out')))∧
     ∀ y,inS (cS (WV x d (jF x d l s.x1 false false out'))) y=true↔inS (cS out') y=true∧∀ z,s.x1<=z->z<=x+d->inS (jD l z) y=true:=by
     intro out' ho;obtain⟨g1,g2⟩:=Ic x d l hl s.x1 false out' (by simp) fun _=>⟨ho,fun t ht=>hb t ht⟩;exact⟨g1,fun y=>by rw[g2];simp⟩
    have split:∀ y,(∀ z,nx<=z->z<=x+d->inS (jD (s::l) z) y=true)↔(inS (cS s.column) y=true∨x+d < nx)∧∀ z,s.x1<=z->z<=x+d->inS (jD l z) y=true:=by
     intro y;constructor
     ·intro h;refine⟨?_,fun z hz1 hz2=>?_⟩
      ·by_cases hn:nx<=x+d
       ·have:=h nx (Int.le_refl _) hn;rw[Vo (by omega) (by omega)]at this;exact .inl this
       ·right;omega
      ·have:=h z (by omega) hz2
       rwa [Cw (by omega)]at this
     ·rintro⟨a,b⟩ z hz1 hz2;by_cases hz:z < s.x1
      ·rw[Vo (by omega) hz];rcases a with a |a
       ·exact a
       ·omega
      ·rw[Cw (by omega)];exact b z (by omega) hz2
    cases first with
    |true=>
     simp only[cond_true];obtain⟨g1,g2⟩:=key s.column hsc;refine⟨g1,fun y=>?_⟩;rw[g2,split];have:=h1 rfl;constructor
     ·rintro⟨a,b⟩;exact⟨by simp,.inl a,b⟩
     ·rintro⟨_,a |a,b⟩
      ·exact⟨a,b⟩
      ·omega
    |false=>
     simp only[cond_false];obtain⟨k1,k2⟩:=h2 rfl;have kn:=k2 s mem_cons_self;obtain⟨g1,g2⟩:=key (LG out s.column) (Y4 k1 hsc);refine⟨g1,fun y=>?_⟩;rw[g2,split,afu,and_eq_true];constructor
     ·rintro⟨⟨a,b⟩,c⟩;exact⟨fun _=>a,.inl b,c⟩
     ·rintro⟨a,b |b,c⟩
      ·exact⟨⟨a trivial,b⟩,c⟩
      ·omega
theorem ac2 {l:List aX} (h:Y5 l) {x d:Int} (hd:0<=d):Can (cS (Ib l x d))∧∀ y,inS (cS (Ib l x d)) y=true↔∀ z,x - d<=z->z<=x+d->inS (jD l z) y=true:=by
 obtain⟨g1,g2⟩:=Ic x d l h (x - d) true [] (fun _=>by omega) (by simp);exact⟨g1,fun y=>by rw[afv,g2];simp⟩
theorem RG {F:List Int} (x d:Int):∀ (l:List aX),(∀ s∈l,Ia F s.column)->∀ (nx:Int) (gap first:Bool) (out:List aM),Ia F out->Ia F (jF x d l nx gap first out).2.2
 |[],_,_,_,_,_,h=>h
 |s::l,hl,nx,gap,first,out,h=>by
  have ih:=RG x d l fun t ht=>hl t (mem_cons_of_mem _ ht);simp only[jF];cases gap || (decide (s.x1<=nx) || decide (s.x0>x+d))with
  |true=>exact ih _ _ _ _ h
  |false=>
   cases decide (s.x0>nx)with
   |true=>exact ih _ _ _ _ h
   |false=>
    cases first with
    |true=>exact ih _ _ _ _ (hl s mem_cons_self)
    |false=>exact ih _ _ _ _ (Vm h (hl s mem_cons_self))
theorem RH (F:List Int):Ia F []:=⟨vQ,by simp⟩
theorem ac3 {F:List Int} {l:List aX} (h:∀ s∈l,Ia F s.column) (x d:Int):Ia F (Ib l x d):=by
 unfold Ib;cases (jF x d l (x - d) false true []).2.1 || decide ((jF x d l (x - d) false true []).1<=x+d)with
 |true=>exact RH F
 |false=>exact RG x d l h _ _ _ _ (RH F)
theorem aaV {a d:Int} (h1:0<=a∧a<=1048576) (h2:0<=d∧d<=1048576):i64.wrap (a+d)=a+d:=bH (by omega) (by omega)
theorem aaW {a d:Int} (h1:0<=a∧a<=1048576) (h2:0<=d∧d<=1048576):i64.wrap (a - d)=a - d:=bH (by omega) (by omega)
theorem aaX (d:Int) (out:List aX) (r:aj) (h:∀ c∈out.getLast?,c.x0≠r.x0):fM d out r=fM d (out++[⟨r.x0,r.x1,[]⟩]) r:=by
 unfold fM;cases ho:out.getLast? with
 |none=>
  have:out=[]:=List.getLast?_eq_none_iff.1 ho;subst this;simp
 |some c=>
  have:=h c (by rw[ho];rfl);simp[this]
theorem Y6 {d:Int} (hd:0<=d∧d<=1048576) (out:List aX) (x0 x1:Int) (col:List aM) (s:ax) (hs:0<=s.from_∧s.from_ < s.to∧s.to<=1048576):
 fM d (out++[⟨x0,x1,col⟩]) ⟨x0,s.from_,x1,s.to⟩=out++[⟨x0,x1,col++Bb d [s]⟩]:=by
 have w1:i64.wrap (s.from_+d)=s.from_+d:=aaV (by omega) hd;have w2:i64.wrap (s.to - d)=s.to - d:=aaW (by omega) hd;unfold fM Bb;simp only[List.getLast?_append,List.getLast?_singleton,Option.or_some,Option.getD_some,if_true,w1,w2];by_cases h:s.from_+d < s.to - d
 ·simp[h]
 ·simp[h]
theorem Y7 (d:Int) (a b:List ax):Bb d (a++b)=Bb d a++Bb d b:=by simp[Bb]
theorem Vp {d:Int} (hd:0<=d∧d<=1048576) (x0 x1:Int):∀ (c:List ax),(∀ s∈c,0<=s.from_∧s.from_ < s.to∧s.to<=1048576)->∀ (out:List aX) (col:List aM),
 (aA x0 x1 c).foldl (fM d) (out++[⟨x0,x1,col⟩])=out++[⟨x0,x1,col++Bb d c⟩]
 |[],_,out,col=>by simp[aA,Bb]
 |s::c,h,out,col=>by
  have e:aA x0 x1 (s::c)=⟨x0,s.from_,x1,s.to⟩::aA x0 x1 c:=rfl;rw[e,foldl_cons,Y6 hd _ _ _ _ _ (h s mem_cons_self),Vp hd x0 x1 c (fun t ht=>h t (mem_cons_of_mem _ ht))];have:Bb d (s::c)=Bb d [s]++Bb d c:=Y7 d [s] c;rw[this,append_assoc]
def zG (d:Int) (s:aF):aX:=⟨s.x0,s.x1,Bb d s.column⟩
theorem RI {d:Int} (hd:0<=d∧d<=1048576):∀ (R:List aF),Runs R->(∀ s∈R,∀ q∈s.column,0<=q.from_∧q.from_ < q.to∧q.to<=1048576)->∀ (out:List aX),(∀ c∈out.getLast?,∀ s∈R.head?,c.x0 < s.x0)->
 (fJ R).foldl (fM d) out=out++R.map (zG d)
 |[],_,_,out,_=>by simp[fJ]
 |s::R,h,hb,out,hl=>by
  have hh:=gy h;have e:fJ (s::R)=aA s.x0 s.x1 s.column++fJ R:=rfl;rw[e,List.foldl_append];have first:(aA s.x0 s.x1 s.column).foldl (fM d) out=out++[zG d s]:=by
   cases hc:s.column with
   |nil=>exact absurd hc hh.2
   |cons q c=>
    have e2:aA s.x0 s.x1 (q::c)=⟨s.x0,q.from_,s.x1,q.to⟩::aA s.x0 s.x1 c:=rfl;rw[e2,foldl_cons,aaX d out _ (fun c' hc'=>by have:=hl c' hc' s rfl;show c'.x0≠s.x0;omega),<- foldl_cons,<- e2];rw[Vp hd s.x0 s.x1 (q::c) (fun t ht=>hb s mem_cons_self t (by rw[hc];exact ht))];simp[zG,hc]
  rw[first,RI hd R (eU h) (fun t ht=>hb t (mem_cons_of_mem _ ht)) _ (fun c hc t ht=>?_)]
  ·simp
  ·simp only[List.getLast?_append,List.getLast?_singleton,Option.mem_def]at hc;have hc:zG d s=c:=(by simpa using hc);subst hc;cases R with
   |nil=>simp at ht
   |cons u R=>
    simp only[List.head?_cons,Option.mem_def,Option.some.injEq]at ht;subst ht;have:=h.2.1;show s.x0 < u.x0;omega
theorem LK {n:Nat} {b:List aM} (x:aM) (hb:b.length<=1000) (hn:1000 < n) (out:List aM) (ho:out.length<=100000000):
 iter (qh b x) n ((0:Int),out)=some (out++(b.filter fun y=>decide (max x.from_ y.from_ < min x.to y.to)).map fun y=>⟨max x.from_ y.from_,min x.to y.to⟩):=by
 have:=bD (l:=b) (step:=qh b x) (fun i (s:List aM)=>((i:Int),s)) (fun y s=>bif decide (max x.from_ y.from_ < min x.to y.to)then s++[⟨max x.from_ y.from_,min x.to y.to⟩]else s) (fun s=>s) (fun i s=>s.length<=100000000+i)
  (fun i hi s hs=>?_) (fun s hs=>by simp[qh]) n (by omega) out (by omega)
 ·rw[show ((0:Nat):Int)=0 from rfl]at this;rw[this];congr 1;have gen:∀ (ys:List aM) (s:List aM),ys.foldl (fun s y=>bif decide (max x.from_ y.from_ < min x.to y.to)then s++[⟨max x.from_ y.from_,min x.to y.to⟩]else s) s=s++(ys.filter fun y=>decide (max x.from_ y.from_ < min x.to y.to)).map fun y=>⟨max x.from_ y.from_,min x.to y.to⟩:=by
   intro ys
   induction ys with
   |nil=>intro s;simp
   |cons y ys ih=>
    intro s;rw[foldl_cons,ih,List.filter_cons];cases decide (max x.from_ y.from_ < min x.to y.to)<;>simp
  exact gen b out
 ·have ap:bq s.length s.length (sub ([(aM.mk (max x.from_ b[i].from_) (min x.to b[i].to))]:List aM) 0 1).length 1 16=true:=bf (n:=1) (by omega) (by simp only[maxLen];omega);simp only[qh,bJ hi,cond_true,bn hi,bind_some,ap,dw,aC,nJ];cases decide (max x.from_ b[i].from_ < min x.to b[i].to)with
  |true=>
   refine⟨?_,by simp only[cond_true,length_append,List.length_singleton];omega⟩;simp only[cond_true];rw[ay (by omega)];rfl
  |false=>
   refine⟨?_,by simp only[cond_false];omega⟩;simp only[cond_false];rw[ay (by omega)]
theorem WW {n:Nat} {a b:List aM} (ha:a.length<=1000) (hb:b.length<=1000) (hn:1000 < n):FX n a b=some (LG a b):=by
 unfold FX
 have:=bD (l:=a) (step:=vN n a b) (fun i (s:List aM)=>((i:Int),s)) (fun x s=>s++(b.filter fun y=>decide (max x.from_ y.from_ < min x.to y.to)).map fun y=>⟨max x.from_ y.from_,min x.to y.to⟩) (fun s=>s) (fun i s=>s.length<=1000*i)
  (fun i hi s hs=>?_) (fun s hs=>by simp[vN]) n (by omega) [] (by simp)
 ·rw[show ((0:Nat):Int)=0 from rfl]at this;simp only[length_nil,aC,cond_true,this,bind_some,bB];congr 1;have gen:∀ (xs:List aM) (s:List aM),xs.foldl (fun s x=>s++(b.filter fun y=>decide (max x.from_ y.from_ < min x.to y.to)).map fun y=>⟨max x.from_ y.from_,min x.to y.to⟩) s=s++LG xs b:=by
   intro xs
   induction xs with
   |nil=>intro s;simp[LG]
   |cons x xs ih=>intro s;rw[foldl_cons,ih];simp[LG]
  simpa using gen a []
 ·have hlen:((b.filter fun y=>decide (max (a[i]).from_ y.from_ < min (a[i]).to y.to)).map fun y=>(⟨max (a[i]).from_ y.from_,min (a[i]).to y.to⟩:aM)).length<=1000:=by
   rw[length_map];exact Nat.le_trans (length_filter_le _ _) hb
  simp only[vN,bJ hi,cond_true,bn hi,bind_some,aC];rw[LK _ hb hn s (by omega)];simp only[bind_some,aC,cond_true];refine⟨?_,by rw[length_append];omega⟩;rw[ay (by omega)]
theorem Bc {n:Nat} {F:List Int} (hF:F.length<=1000) {x d:Int} (hx: -1048576<=x∧x<=3000000) (hd:0<=d∧d<=1048576) (L:List aX) (hL:∀ s∈L,Ia F s.column) (hn:1000 < n) (hl:L.length<=1000):
 ∀ (m i:Nat) (nx:Int) (gap first:Bool) (out:List aM),i+m=L.length->Ia F out->∀ k,m < k->
   iter (qi n L) k ((i:Int),x,d,nx,gap,first,out)=some (x,d,(jF x d (L.drop i) nx gap first out).1,(jF x d (L.drop i) nx gap first out).2.1,(jF x d (L.drop i) nx gap first out).2.2)
 | 0,i,nx,gap,first,out,hi,ho,k,hk=>by
  obtain⟨k,rfl⟩:∃ j,k=j+1:=⟨k - 1,by omega⟩;have:i=L.length:=by omega
  subst this;refine aW ?_;simp[qi,jF]
 |m+1,i,nx,gap,first,out,hi,ho,k,hk=>by
  obtain⟨k,rfl⟩:∃ j,k=j+1:=⟨k - 1,by omega⟩;have hil:i < L.length:=by omega
  have w:i64.wrap (x+d)=x+d:=bH (by omega) (by omega);have ih:=fun nx gap first out ho=>Bc hF hx hd L hL hn hl m (i+1) nx gap first out (by omega) ho k (by omega)
  have hdr:L.drop i=L[i]::L.drop (i+1):=drop_eq_getElem_cons hil;have hc:=hL _ (getElem_mem hil);rw[hdr];simp only[jF]
  have st:qi n L ((i:Int),x,d,nx,gap,first,out)=some (.inl (((i+1:Nat):Int),x,d,
   bif gap || (decide (L[i].x1<=nx) || decide (L[i].x0>x+d))then nx else bif decide (L[i].x0>nx)then nx else L[i].x1,
   bif gap || (decide (L[i].x1<=nx) || decide (L[i].x0>x+d))then gap else bif decide (L[i].x0>nx)then true else gap,
   bif gap || (decide (L[i].x1<=nx) || decide (L[i].x0>x+d))then first else bif decide (L[i].x0>nx)then first else false,
   bif gap || (decide (L[i].x1<=nx) || decide (L[i].x0>x+d))then out else bif decide (L[i].x0>nx)then out else bif first then L[i].column else LG out L[i].column)):=by
   have lo:=RF ho;have lc:=RF hc;simp only[qi,bJ hil,cond_true,bn hil,bind_some,Cq,w,nJ,WW (n:=n) (a:=out) (b:=L[i].column) (by omega) (by omega) hn,bB,aC,ay (show i < 9223372036854775807 by omega)];cases gap<;>cases decide (L[i].x1<=nx)<;>cases decide (L[i].x0>x+d)<;>cases decide (L[i].x0>nx)<;>cases first<;>rfl
  rw[bU st,ih]
  ·cases gap<;>cases decide (L[i].x1<=nx)<;>cases decide (L[i].x0>x+d)<;>cases decide (L[i].x0>nx)<;>cases first<;>rfl
  ·cases gap || (decide (L[i].x1<=nx) || decide (L[i].x0>x+d))with
   |true=>exact ho
   |false=>
    cases decide (L[i].x0>nx)with
    |true=>exact ho
    |false=>
     cases first with
     |true=>exact hc
     |false=>exact Vm ho hc
theorem WX {n:Nat} {F:List Int} (hF:F.length<=1000) {x d:Int} (hx: -1048576<=x∧x<=3000000) (hd:0<=d∧d<=1048576) (L:List aX) (hL:∀ s∈L,Ia F s.column) (hn:1000 < n) (hl:L.length<=1000):AQ n L x d=some (Ib L x d):=by
 unfold AQ;have w1:i64.wrap (x - d)=x - d:=bH (by omega) (by omega);have w2:i64.wrap (x+d)=x+d:=bH (by omega) (by omega);have:=Bc hF hx hd L hL hn hl L.length 0 (x - d) false true [] (by omega) (RH F) n (by omega);rw[show ((0:Nat):Int)=0 from rfl,List.drop_zero]at this;rw[w1,this];simp only[bind_some,w2,nJ,Ib];cases (jF x d L (x - d) false true []).2.1<;>cases decide ((jF x d L (x - d) false true []).1<=x+d)<;>rfl
def dX (d:Int) (a:List aj):List aX:=(A9 (aD a)).map (zG d)
def xsL (d:Int) (L:List aX):List Int:=aaH (L.flatMap fun s=>[s.x0+d,s.x1+d,s.x0 - d,s.x1 - d])
def jG (d:Int) (L:List aX):List aF:=dN (fun a b=>⟨a,b,cS (Ib L a d)⟩) (xsL d L)
def sQ (a:List aj) (d:Int):List aj×Int:=
 if (decide (0<=d)&&(decide (d<=1048576)&&rightL a))=true then (if (aR (jG d (dX d a))).length>200 then ([],6)else (aR (jG d (dX d a)),0))else ([],1)
structure aaY (R:List aF):Prop where
 runs:Runs R
 len:R.length<=200
 col:∀ s∈R,Can s.column∧∀ q∈s.column,0<=q.from_∧q.from_ < q.to∧q.to<=1048576
 xs:∀ s∈R,0<=s.x0∧s.x0 < s.x1∧s.x1<=1048576
 froms:(R.flatMap fun s=>s.column.map (·.from_)).length<=200
theorem Y8 (R:List aF):(fJ R).length=(R.flatMap fun s=>s.column.map (·.from_)).length:=by
 induction R with
 |nil=>rfl
 |cons s R ih=>
  have e:fJ (s::R)=aA s.x0 s.x1 s.column++fJ R:=rfl;rw[e,length_append,ih,List.flatMap_cons,length_append,aU,length_map]
theorem Y9:∀ {R:List aF},Runs R->R.length<=(fJ R).length
 |[],_=>by simp
 |s::R,h=>by
  have hh:=gy h;have e:fJ (s::R)=aA s.x0 s.x1 s.column++fJ R:=rfl;have:=Y9 (eU h);have:=List.length_pos_iff.2 hh.2;rw[e,length_append,aU,length_cons];omega
theorem Ie {a:List aj} (h:rightL a=true):aaY (A9 (aD a))∧fJ (A9 (aD a))=a∧∀ x,dU (A9 (aD a)) x=aL a x:=by
 obtain⟨hv,hl,hw⟩:=bV h;obtain⟨r1,r2⟩:=xB (fQ a);rw[uf]at hw;have hc:∀ x,dU (A9 (aD a)) x=aL a x:=fun x=>by rw[r2,jC]
 have okr:∀ s∈A9 (aD a),∀ q∈s.column,OkR ⟨s.x0,q.from_,s.x1,q.to⟩=true:=fun s hs q hq=>hv _ (by rw[<- hw];exact NC.2 ⟨s,hs,q,hq,rfl⟩);refine⟨⟨r1,?_,fun s hs=>⟨?_,fun q hq=>?_⟩,fun s hs=>?_,?_⟩,hw,hc⟩
 ·have:=Y9 r1;rw[hw]at this;omega
 ·obtain⟨m1,m2⟩:=ug r1 s hs;have:=m2 s.x0 (Int.le_refl _) m1;rw[hc]at this;rw[<- this];exact (cZ hv s.x0).1
 ·have:=okr s hs q hq;simp only[OkR,and_eq_true,decide_eq_true_eq]at this;omega
 ·obtain⟨m1,m2⟩:=ug r1 s hs;have hne:s.column≠[]:=by
   intro e;have:=m2 s.x0 (Int.le_refl _) m1;have h3:∃ i,∃ hi:i < (A9 (aD a)).length,(A9 (aD a))[i]=s:=mem_iff_getElem.1 hs;have:∀ {R:List aF},Runs R->∀ s∈R,s.column≠[]:=by
    intro R
    induction R with
    |nil=>intro _ s hs;simp at hs
    |cons t R ih=>
     intro hR s hs;rcases mem_cons.1 hs with rfl |hs
     ·exact (gy hR).2
     ·exact ih (eU hR) s hs
   exact this r1 s hs e
  obtain⟨q,hq⟩:=List.exists_mem_of_ne_nil _ hne;have:=okr s hs q hq;simp only[OkR,and_eq_true,decide_eq_true_eq]at this;omega
 ·rw[<- Y8,hw];exact hl
theorem LM:∀ {R:List aF},Runs R->R.Pairwise (fun s t=>s.x1<=t.x0)
 |[],_=>List.Pairwise.nil
 |[s],_=>by simp
 |s::t::R,h=>by
  have ih:=LM (eU h);refine pairwise_cons.2 ⟨fun u hu=>?_,ih⟩;rcases mem_cons.1 hu with rfl |hu
  ·exact h.2.1
  ·have:=(pairwise_cons.1 ih).1 u hu;have:=(gy (eU h)).1;have:=h.2.1;omega
theorem aeA {R:List aF} (h:aaY R) {d:Int} (hd:0<=d):Y5 (R.map (zG d)):=by
 refine⟨?_,fun s hs=>?_⟩
 ·rw[List.pairwise_map];exact LM h.runs
 ·obtain⟨t,ht,rfl⟩:=mem_map.1 hs;exact⟨(h.xs t ht).2.1,Y3 hd (h.col t ht).1⟩
theorem aaZ {R:List aF} (h:aaY R) {d:Int} (hd:0<=d):∀ s∈R.map (zG d),Ia ((R.flatMap fun s=>s.column.map (·.from_)).map (· +d)) s.column:=by
 intro s hs;obtain⟨t,ht,rfl⟩:=mem_map.1 hs;refine⟨Y3 hd (h.col t ht).1,fun q hq=>?_⟩;simp only[zG,Bb,mem_map,mem_filter]at hq;obtain⟨p,⟨hp,_⟩,rfl⟩:=hq;exact mem_map.2 ⟨p.from_,mem_flatMap.2 ⟨t,ht,mem_map.2 ⟨p,hp,rfl⟩⟩,rfl⟩
theorem NH (d:Int):∀ (R:List aF) (x:Int),jD (R.map (zG d)) x=cS (Bb d (dU R x))
 |[],x=>rfl
 |s::R,x=>by
  have ih:=NH d R x;simp only[jD,map_cons,dU,tS,zG]at*;cases decide (s.x0<=x)&&decide (x < s.x1)with
  |true=>rfl
  |false=>exact ih
theorem agu {a b:List aM} (h:cS a=cS b):a=b:=by
 induction a generalizing b with
 |nil=>cases b with
  |nil=>rfl
  |cons y b=>simp[cS]at h
 |cons x a ih=>cases b with
  |nil=>simp[cS]at h
  |cons y b=>
   simp only[cS,map_cons,List.cons.injEq]at h;obtain⟨h1,h2⟩:=h;rw[ih h2];obtain⟨x1,x2⟩:=x;obtain⟨y1,y2⟩:=y;simp only[unq,ax.mk.injEq]at h1;rw[h1.1,h1.2]
theorem Ig (a:List aM):(cS a).length=a.length:=by simp[cS]
theorem J9 {n:Nat} {a b:List aM} (hl:a.length < 1099511627776) (hn:a.length < n):qj n a b=some (decide (a=b)):=by
 have e:qj n a b=Ju n (fun x1 x2:aM=>!((x1.from_==(x2.from_:Int))&&((x1.to==(x2.to:Int))&&true))) a b:=by kernel_rfl
 rw[e];refine Et (fun x y=>?_) hl hn;obtain⟨x1,x2⟩:=x;obtain⟨y1,y2⟩:=y;rw[Bool.eq_iff_iff];simp
theorem LP {n:Nat} {d:Int} (hd:0<=d∧d<=1048576) {L:List aX} (hx:∀ s∈L,0<=s.x0∧s.x0 < s.x1∧s.x1<=1048576) (hl:L.length<=1000) (hn:1000 < n):
 iter (ql d L) n ((0:Int),([]:List Int))=some (L.flatMap fun s=>[s.x0+d,s.x1+d,s.x0 - d,s.x1 - d]):=by
 have:=bD (l:=L) (step:=ql d L) (fun i (s:List Int)=>((i:Int),s)) (fun r s=>s++[i64.wrap (r.x0+d),i64.wrap (r.x1+d),i64.wrap (r.x0 - d),i64.wrap (r.x1 - d)]) (fun s=>s) (fun i s=>s.length<=4*i)
  (fun i hi s hs=>?_) (fun s hs=>by simp[ql]) n (by omega) [] (Nat.le_refl _)
 ·rw[show ((0:Nat):Int)=0 from rfl]at this;rw[this];have gen:∀ (ys:List aX),(∀ s∈ys,0<=s.x0∧s.x0 < s.x1∧s.x1<=1048576)->∀ (s:List Int),ys.foldl (fun s r=>s++[i64.wrap (r.x0+d),i64.wrap (r.x1+d),i64.wrap (r.x0 - d),i64.wrap (r.x1 - d)]) s=s++ys.flatMap fun s=>[s.x0+d,s.x1+d,s.x0 - d,s.x1 - d]:=by
   intro ys
   induction ys with
   |nil=>intro _ s;simp
   |cons y ys ih=>
    intro hy s;have h0:=hy y mem_cons_self;rw[foldl_cons,ih (fun t ht=>hy t (mem_cons_of_mem _ ht)),aaV (by omega) hd,aaV (by omega) hd,aaW (by omega) hd,aaW (by omega) hd];simp
  congr 1;simpa using gen L hx []
 ·have ap:bq s.length s.length (sub ([(i64.wrap (L[i].x0+d)),(i64.wrap (L[i].x1+d)),(i64.wrap (L[i].x0 - d)),(i64.wrap (L[i].x1 - d))]:List Int) 0 4).length 4 8=true:=bf (n:=4) (by omega) (by simp only[maxLen];omega);simp only[ql,bB,bJ hi,cond_true,bn hi,bind_some,ap,dw,aC];refine⟨?_,by simp;omega⟩;rw[ay (by omega)];rfl
theorem LQ {n:Nat} (es:List Int) (i:Nat) (hi:i+1 < es.length) (he:es.length < 1099511627776) (pre:List aj) (x' x1:Int) (c:List ax) (hl:pre.length+c.length < 1099511627776) (hn:c.length < n):
 iter (qm ((),es) ((i+1:Nat):Int) (pre++aA x' x1 c)) n (((pre.length:Nat):Int),pre++aA x' x1 c)=some (pre++aA x' es[i+1] c):=by
 have:=fG (step:=qm ((),es) ((i+1:Nat):Int) (pre++aA x' x1 c)) (fun j=>(((pre.length+j:Nat):Int),pre++(aA x' es[i+1] (c.take j)++aA x' x1 (c.drop j)))) c.length (pre++aA x' es[i+1] c) (fun j hj=>?_) ?_ n hn
 ·simpa[aA]using this
 ·have lt:(pre++aA x' x1 c).length=pre.length+c.length:=by rw[length_append,aU]
  have d:decide (((pre.length+j:Nat):Int) < (((pre++aA x' x1 c).length:Nat):Int))=true:=by rw[lt];simp;omega
  have ib:inb ((pre.length+j:Nat):Int) (pre++aA x' x1 c).length=true:=aZ (by rw[lt];omega);have tl:(aA x' es[i+1] (c.take j)).length=j:=by rw[aU,length_take];omega
  have dr:c.drop j=c[j]::c.drop (j+1):=drop_eq_getElem_cons hj;have e1:aA x' x1 (c.drop j)=⟨x',c[j].from_,x1,c[j].to⟩::aA x' x1 (c.drop (j+1)):=by rw[dr];rfl
  have g:at? (pre++(aA x' es[i+1] (c.take j)++aA x' x1 (c.drop j))) (((0:Nat):Int)+((pre.length+j:Nat):Int))=some ⟨x',c[j].from_,x1,c[j].to⟩:=by
   rw[ow,List.getElem?_append_right (by omega),List.getElem?_append_right (by omega),tl,e1];simp
  have z:(((0:Nat):Int)+((pre.length+j:Nat):Int)).toNat=pre.length+j:=by omega
  have sn:aA x' es[i+1] (c.take j++[c[j]])=aA x' es[i+1] (c.take j)++[aj.mk x' c[j].from_ es[i+1] c[j].to]:=by unfold aA;rw[List.map_append];rfl
  have st:(pre++(aA x' es[i+1] (c.take j)++aA x' x1 (c.drop j))).set (pre.length+j) (aj.mk x' c[j].from_ es[i+1] c[j].to)=pre++(aA x' es[i+1] (c.take (j+1))++aA x' x1 (c.drop (j+1))):=by
   rw[set_append_right _ _ (by omega),set_append_right _ _ (by omega),tl,e1,take_succ_eq_append_getElem hj,sn,Nat.add_sub_cancel_left,Nat.sub_self,List.set_cons_zero,append_assoc];rfl
  simp only[qm,d,cond_true,bB,bn hi,bind_some,ib,g,z,st];rw[ay (by omega)];rfl
 ·have lt:(pre++aA x' x1 c).length=pre.length+c.length:=by rw[length_append,aU]
  have d:decide (((pre.length+c.length:Nat):Int) < (((pre++aA x' x1 c).length:Nat):Int))=false:=by rw[lt];simp
  simp only[qm,d,cond_false,List.take_length,List.drop_length];simp[aA]
theorem LU {n:Nat} (es:List Int) (i:Nat) (hi:i+1 < es.length) (he:es.length < 1099511627776) (out:List aj) (c:List aM) (hl:out.length+c.length < 1099511627) (hn:c.length < n):
 iter (qo ((),es) ((i+1:Nat):Int) c) n ((0:Int),out)=some (out++aA (es[i]'(by omega)) es[i+1] (cS c)):=by
 have:=bD (l:=c) (step:=qo ((),es) ((i+1:Nat):Int) c) (fun j (s:List aj)=>((j:Int),s)) (fun q s=>s++[⟨es[i]'(by omega),q.from_,es[i+1],q.to⟩]) (fun s=>s) (fun j s=>s.length<=out.length+j)
  (fun j hj s hs=>?_) (fun s hs=>by simp[qo]) n hn out (Nat.le_refl _)
 ·rw[show ((0:Nat):Int)=0 from rfl]at this;rw[this];have gen:∀ (ys:List aM) (s:List aj),ys.foldl (fun s q=>s++[⟨es[i]'(by omega),q.from_,es[i+1],q.to⟩]) s=s++aA (es[i]'(by omega)) es[i+1] (cS ys):=by
   intro ys
   induction ys with
   |nil=>intro s;simp[aA,cS]
   |cons y ys ih=>intro s;rw[foldl_cons,ih];simp[aA,cS,unq]
  rw[gen]
 ·have w:i64.wrap (((i+1:Nat):Int) - 1)=((i:Nat):Int):=by rw[gV (by omega) (by omega)];rfl
  have ap:bq s.length s.length (sub ([(aj.mk (es[i]'(by omega)) (c[j]).from_ es[i+1] (c[j]).to)]:List aj) 0 1).length 1 32=true:=bf (n:=1) (by omega) (by simp only[maxLen];omega);simp only[qo,bJ hj,cond_true,bn hj,bind_some,w,bB,bn hi,bn (show i < es.length by omega),ap,dw,aC];refine⟨?_,by simp;omega⟩;rw[ay (by omega)];rfl
theorem Ka {d:Int} {L:List aX} {z:Int}:z∈xsL d L↔∃ s∈L,z=s.x0+d∨z=s.x1+d∨z=s.x0 - d∨z=s.x1 - d:=by
 rw[xsL,Q8,mem_flatMap];simp
theorem Kb (d:Int) (L:List aX):(L.flatMap fun s=>[s.x0+d,s.x1+d,s.x0 - d,s.x1 - d]).length=4*L.length:=by
 induction L with
 |nil=>rfl
 |cons s L ih=>rw[List.flatMap_cons,length_append,ih];simp;omega
theorem afw (d:Int) (L:List aX):(xsL d L).length<=4*L.length:=by
 have h:=kT (iw ltI (L.flatMap fun s=>[s.x0+d,s.x1+d,s.x0 - d,s.x1 - d]));rw[bC,Kb]at h;exact h
def yZ (d:Int) (L:List aX) (es:List Int) (i:Nat):List aM:=Ib L (es.getD i 0) d
def Pf (d:Int) (L:List aX) (es:List Int) (S:List aF) (i:Nat):List aM×Int×Int×List aj:=
 (if i=0 then []else yZ d L es (i - 1),(((aR (S.take i)).length - (if i=0 then 0 else (yZ d L es (i - 1)).length):Nat):Int),((i+1:Nat):Int),aR (S.take i))
theorem LV {n:Nat} {d:Int} (hd:0<=d∧d<=1048576) {L:List aX} (hx:∀ s∈L,0<=s.x0∧s.x0 < s.x1∧s.x1<=1048576) {F:List Int} (hF:F.length<=200) (hc:∀ s∈L,Ia F s.column) (hl:L.length<=200) (hn:1000 < n):
 iter (mQ n d L ((),xsL d L)) n (([]:List aM),(0:Int),(1:Int),([]:List aj))=some (aR (jG d L)):=by
 have he:=afw d L;obtain⟨p1,p2⟩:=kJ (fun a b=>(⟨a,b,cS (Ib L a d)⟩:aF)) (xsL d L);have hS:(jG d L).length=(xsL d L).length - 1:=p1;have wl:∀ x,(Ib L x d).length<=200:=fun x=>by have:=RF (ac3 hc x d);omega
 have xr:∀ z∈xsL d L,-1048576<=z∧z<=3000000:=by
  intro z hz;obtain⟨s,hs,h⟩:=Ka.1 hz;have:=hx s hs;omega
 have sc:∀ s∈jG d L,s.column.length<=200:=by
  intro s hs;obtain⟨i,hi,rfl⟩:=mem_iff_getElem.1 hs;have:=p2 i (by omega) hi;unfold jG;rw[this,Ig];exact wl _
 have bl:∀ i,(aR ((jG d L).take i)).length<=800*200:=by
  intro i;have h1:=GA ((jG d L).take i) 200 fun s hs=>sc s (List.mem_of_mem_take hs);have h2:((jG d L).take i).length<=800:=by rw[length_take];omega
  exact Nat.le_trans h1 (Nat.mul_le_mul_right _ h2)
 by_cases hE:(xsL d L).length=0
 ·
  have s0:jG d L=[]:=List.length_eq_zero_iff.1 (by omega);have x0:xsL d L=[]:=List.length_eq_zero_iff.1 hE;obtain⟨n,rfl⟩:∃ m,n=m+1:=⟨n - 1,by omega⟩;refine aW ?_;rw[s0,x0];simp[mQ,aR,sub]
 have main:=fG (step:=mQ n d L ((),xsL d L)) (Pf d L (xsL d L) (jG d L)) (jG d L).length (aR (jG d L)) (fun i hi=>?_) ?_ n (by omega)
 ·simpa[Pf,aR]using main
 ·have hi2:i+1 < (xsL d L).length:=by omega
  have hi1:i < (xsL d L).length:=by omega
  have gD:(xsL d L).getD i 0=(xsL d L)[i]:=by simp[hi1]
  have hs:(jG d L)[i]=⟨(xsL d L)[i],(xsL d L)[i+1],cS (yZ d L (xsL d L) i)⟩:=by
   unfold yZ;rw[gD];exact p2 i hi2 hi
  have w:i64.wrap (((i+1:Nat):Int) - 1)=((i:Nat):Int):=by rw[gV (by omega) (by omega)];rfl
  have wn:AQ n L (xsL d L)[i] d=some (yZ d L (xsL d L) i):=by
   unfold yZ;rw[gD];exact WX (F:=F) (by omega) (xr _ (getElem_mem hi1)) hd L hc hn (by omega)
  have wi:(yZ d L (xsL d L) i).length<=200:=wl _;have tk:(jG d L).take (i+1)=(jG d L).take i++[(⟨(xsL d L)[i],(xsL d L)[i+1],cS (yZ d L (xsL d L) i)⟩:aF)]:=by rw[take_succ_eq_append_getElem hi,hs]
  have bi:=bl i;have w2:i64.wrap (((i+1:Nat):Int)+1)=((i+1+1:Nat):Int):=ay (by omega);have d1:decide (((i+1:Nat):Int) < ((((xsL d L)).length:Nat):Int))=true:=bJ hi2;have s4:=LU (n:=n) (xsL d L) i hi2 (by omega) (aR ((jG d L).take i)) (yZ d L (xsL d L) i) (by omega) (by omega);unfold Pf;simp only[mQ,bB,d1,cond_true,w,bn hi1,bind_some,wn,w2,aC,s4];generalize hW:yZ d L (xsL d L) i=W at*;by_cases h0:i=0
  ·have g1:decide (((i+1:Nat):Int)>1)=false:=(by rw[decide_eq_false_iff_not];omega);have tz:List.take i (jG d L)=[]:=(by rw[h0];rfl);have wz:aR (List.take i (jG d L))=[]:=(by rw[tz];rfl);have w1:aR (List.take (i+1) (jG d L))=aA (xsL d L)[i] (xsL d L)[i+1] (cS W):=(by rw[tk,tz];rfl);simp only[g1,cond_false,bind_some,wz,nil_append,w1,aC,cond_true,hW,Nat.add_sub_cancel,Nat.add_one_ne_zero,if_false,aU,Ig,Nat.sub_self,length_nil]
  ·have g1:decide (((i+1:Nat):Int)>1)=true:=(by simp;omega);simp only[g1,cond_true,if_neg h0,Nat.add_one_ne_zero,if_false,Nat.add_sub_cancel,hW];have hi0:i - 1 < (jG d L).length:=(by omega);have hq:=p2 (i - 1) (by omega) hi0;have gD0:(xsL d L).getD (i - 1) 0=(xsL d L)[i - 1]:=(by simp[show i - 1 < (xsL d L).length by omega]);have e0:(jG d L).take i=(jG d L).take (i - 1)++[(⟨(xsL d L)[i - 1],(xsL d L)[i - 1+1],cS (yZ d L (xsL d L) (i - 1))⟩:aF)]:=by
    have:=take_succ_eq_append_getElem hi0;rw[show i - 1+1=i by omega]at this;rw[this];congr 2;unfold yZ;rw[gD0];exact hq
   have wm:(yZ d L (xsL d L) (i - 1)).length<=200:=wl _;generalize yZ d L (xsL d L) (i - 1)=V at*;generalize (jG d L).take (i - 1)=S at e0;have tk2:(jG d L).take (i+1)=S++[(⟨(xsL d L)[i - 1],(xsL d L)[i - 1+1],cS V⟩:aF),(⟨(xsL d L)[i],(xsL d L)[i+1],cS W⟩:aF)]:=(by rw[tk,e0,append_assoc];rfl);rw[J9 (by omega) (by omega)];simp only[bind_some];by_cases hWV:W=V
   ·subst hWV;obtain⟨pre,x',w3,w4⟩:=NF ⟨(xsL d L)[i],(xsL d L)[i+1],cS W⟩ ⟨(xsL d L)[i - 1],(xsL d L)[i - 1+1],cS W⟩ rfl S;have ww:aR ((jG d L).take i)=pre++aA x' (xsL d L)[i - 1+1] (cS W):=(by rw[e0,w3]);have ww2:aR ((jG d L).take (i+1))=pre++aA x' (xsL d L)[i+1] (cS W):=(by rw[tk2,w4]);have lp:(aR ((jG d L).take i)).length=pre.length+W.length:=(by rw[ww,length_append,aU,Ig]);have lp2:(aR ((jG d L).take (i+1))).length=pre.length+W.length:=(by rw[ww2,length_append,aU,Ig]);cases hz:decide (((W.length:Nat):Int)>0)with
    |true=>
     have s3:=LQ (n:=n) (xsL d L) i hi2 (by omega) pre x' (xsL d L)[i - 1+1] (cS W) (by rw[Ig];omega) (by rw[Ig];omega);have pl:(aR ((jG d L).take i)).length - W.length=pre.length:=(by omega);have pl2:(aR ((jG d L).take (i+1))).length - W.length=pre.length:=(by omega);simp only[cond_true,bind_some,decide_true,pl,pl2];rw[ww,s3,ww2];simp only[bind_some];have le:eqL (pre++aA x' (xsL d L)[i - 1+1] (cS W)).length (pre++aA x' (xsL d L)[i+1] (cS W)).length=true:=(by apply aee;rw[length_append,length_append,aU,aU]);simp only[le,cond_true,bind_some,aC]
    |false=>
     have hw0:W=[]:=List.length_eq_zero_iff.1 (by rw[decide_eq_false_iff_not]at hz;omega);subst hw0;have r0:∀ a b,aA a b (cS [])=[]:=fun _ _=>rfl;simp only[cond_false,bind_some,r0,append_nil,aC,cond_true]at*;rw[ww2,<- ww];simp
   ·have dn:decide (W=V)=false:=(by simpa using hWV);have wne:(⟨(xsL d L)[i],(xsL d L)[i+1],cS W⟩:aF).column≠(⟨(xsL d L)[i - 1],(xsL d L)[i - 1+1],cS V⟩:aF).column:=fun e=>hWV (agu e);have ww2:aR ((jG d L).take (i+1))=aR ((jG d L).take i)++aA (xsL d L)[i] (xsL d L)[i+1] (cS W):=by
     rw[tk2,e0];exact RD _ _ wne S
    have e1:(bif decide (((W.length:Nat):Int)>0)then some (decide (W=V))else some false:Option Bool)=some false:=(by rw[dn];cases decide (((W.length:Nat):Int)>0)<;>rfl);rw[e1];simp only[bind_some,cond_false,aC,cond_true,ww2,length_append,aU,Ig,Nat.add_sub_cancel]
 ·have d1:decide ((((jG d L).length+1:Nat):Int) < ((((xsL d L)).length:Nat):Int))=false:=by rw[decide_eq_false_iff_not];omega
  unfold Pf;simp only[mQ,bB,d1,cond_false,aC,cond_true,List.take_length]
theorem WY {n:Nat} {a:List aj} {d:Int} (ha:a.length<=900) (hn:10000<=n):FY n a d=some (sQ a d):=by
 unfold FY Rn;rw[l6 (by omega) (by omega) (by omega)];simp only[bind_some,Lu,sQ];by_cases hv:(decide (0<=d)&&(decide (d<=1048576)&&rightL a))=true
 ·have hv':(decide (d>=0)&&(decide (d<=1048576)&&rightL a))=true:=hv;rw[hv'];simp only[hv,if_true,Bool.not_true,cond_false];simp only[and_eq_true,decide_eq_true_eq]at hv;obtain⟨h0,h1,hr⟩:=hv;obtain⟨rok,hro,_⟩:=Ie hr;have hsl:EK a d=some (dX d a):=by
   unfold EK;rw[if_pos (by omega)];congr 1;have:=RI (d:=d) ⟨h0,h1⟩ (A9 (aD a)) rok.runs (fun s hs=>(rok.col s hs).2) [] (by simp);rw[hro]at this;rw[this];rfl
  have hx:∀ s∈dX d a,0<=s.x0∧s.x0 < s.x1∧s.x1<=1048576:=by
   intro s hs;obtain⟨t,ht,rfl⟩:=mem_map.1 hs;exact rok.xs t ht
  have hl:(dX d a).length<=200:=by unfold dX;rw[length_map];exact rok.len
  have s1:=LP (n:=n) (d:=d) ⟨h0,h1⟩ hx (by omega) (by omega);have l4:=Kb d (dX d a);have s2:=LV (n:=n) (d:=d) ⟨h0,h1⟩ hx (F:=((A9 (aD a)).flatMap fun s=>s.column.map (·.from_)).map (· +d)) (by rw[length_map];exact rok.froms) (aaZ rok h0) hl (by omega);simp only[hsl,bind_some,bB,aC,cond_true,length_nil,s1];rw[jV (by omega) (by omega)];simp only[bind_some,bC,aC,cond_true];rw[ji (by rw[bC];omega) (by rw[bC];omega)];simp only[bind_some,bB,aC,cond_true];have hE:dS (iw ltI ((dX d a).flatMap fun s=>[s.x0+d,s.x1+d,s.x0 - d,s.x1 - d]))=xsL d (dX d a):=rfl;rw[hE,s2];simp only[bind_some];by_cases h200:(aR (jG d (dX d a))).length>200
  ·have:decide ((((aR (jG d (dX d a))).length:Nat):Int)>200)=true:=(by simp;omega);rw[this,if_pos h200];rfl
  ·have:decide ((((aR (jG d (dX d a))).length:Nat):Int)>200)=false:=(by simp;omega);rw[this,if_neg h200];rfl
 ·have hv':(decide (d>=0)&&(decide (d<=1048576)&&rightL a))=false:=by simpa using hv
  rw[hv'];simp only[hv,if_false,Bool.not_false,cond_true];rfl
theorem afx {a:List aj} {d:Int} (h0:0<=d) (hr:rightL a=true):lD (jG d (dX d a))∧∀ x,Can (dU (jG d (dX d a)) x)∧∀ y,inS (dU (jG d (dX d a)) x) y=true↔∀ u v,x - d<=u->u<=x+d->y - d<=v->v<=y+d->aO a u v=true:=by
 obtain⟨rok,hro,hcol⟩:=Ie hr;have hv:=(bV hr).1;have hS:=aeA rok h0;have xs:=Es ((dX d a).flatMap fun s=>[s.x0+d,s.x1+d,s.x0 - d,s.x1 - d]);have sat:∀ z,jD (dX d a) z=cS (Bb d (aL a z)):=fun z=>by unfold dX;rw[NH,hcol]
 have win:∀ x,Can (cS (Ib (dX d a) x d))∧∀ y,inS (cS (Ib (dX d a) x d)) y=true↔∀ z,x - d<=z->z<=x+d->inS (jD (dX d a) z) y=true:=fun x=>ac2 hS h0;refine⟨vS _ _ xs,fun x=>?_⟩;have e:dU (jG d (dX d a)) x=cS (Ib (dX d a) x d):=by
  have slabIn:∀ z y,inS (jD (dX d a) z) y=true->∃ s∈dX d a,s.x0<=z∧z < s.x1:=by
   intro z y hz;by_cases hx:∃ s∈dX d a,s.x0<=z∧z < s.x1
   ·exact hx
   ·rw[ET (fun s hs=>by
     by_cases h1:z < s.x0
     ·exact .inl h1
     ·right;by_cases h2:z < s.x1
      ·exact absurd ⟨s,hs,by omega,h2⟩ hx
      ·omega)]at hz
    simp[inS]at hz
  have slabEq:∀ s∈dX d a,∀ z,s.x0<=z->z < s.x1->jD (dX d a) z=jD (dX d a) s.x0:=by
   intro s hs z h1 h2;rw[sat,sat];obtain⟨t,ht,rfl⟩:=mem_map.1 hs;obtain⟨m1,m2⟩:=ug rok.runs t ht;rw[<- hcol,<- hcol,m2 z h1 h2];exact (congrArg (fun c=>cS (Bb d c)) (m2 t.x0 (Int.le_refl _) m1)).symm
  refine ES (fun x=>cS (Ib (dX d a) x d)) (xsL d (dX d a)) xs x (fun e he hex hc=>?_) (fun hall=>?_) (fun hall=>?_)
  ·refine l5 (win e).1 (win x).1 fun y=>?_;rw[Bool.eq_iff_iff,(win e).2,(win x).2];constructor
   ·intro h z hz1 hz2;by_cases hz:z<=e+d
    ·exact h z (by omega) hz
    ·have hE:=h (e+d) (by omega) (Int.le_refl _);obtain⟨s,hs,g1,g2⟩:=slabIn _ _ hE;have:=hc (s.x1 - d) (Ka.2 ⟨s,hs,.inr (.inr (.inr rfl))⟩);rw[slabEq s hs z (by omega) (by omega),<- slabEq s hs (e+d) g1 g2];exact hE
   ·intro h z hz1 hz2;by_cases hz:x - d<=z
    ·exact h z hz (by omega)
    ·have hE:=h (x - d) (Int.le_refl _) (by omega);obtain⟨s,hs,g1,g2⟩:=slabIn _ _ hE;have:=hc (s.x0+d) (Ka.2 ⟨s,hs,.inl rfl⟩);rw[slabEq s hs z (by omega) (by omega),<- slabEq s hs (x - d) g1 g2];exact hE
  ·refine l5 (win x).1 vQ fun y=>?_;rw[Bool.eq_iff_iff,(win x).2];constructor
   ·intro h;obtain⟨s,hs,g1,g2⟩:=slabIn _ _ (h (x - d) (Int.le_refl _) (by omega));have:=hall (s.x1+d) (Ka.2 ⟨s,hs,.inr (.inl rfl)⟩);omega
   ·intro h;simp[inS]at h
  ·refine l5 (win x).1 vQ fun y=>?_;rw[Bool.eq_iff_iff,(win x).2];constructor
   ·intro h;obtain⟨s,hs,g1,g2⟩:=slabIn _ _ (h (x+d) (by omega) (Int.le_refl _));have:=hall (s.x0 - d) (Ka.2 ⟨s,hs,.inr (.inr (.inl rfl))⟩);omega
   ·intro h;simp[inS]at h
 rw[e];refine⟨(win x).1,fun y=>?_⟩;rw[(win x).2];constructor
 ·intro h u v h1 h2 h3 h4;have:=h u h1 h2;rw[sat,ab3 h0 (cZ hv u).1]at this;rw[<- (cZ hv u).2];exact this v h3 h4
 ·intro h z h1 h2;rw[sat,ab3 h0 (cZ hv z).1];intro v h3 h4;rw[(cZ hv z).2];exact h z v h1 h2 h3 h4
theorem y5 {a r:List aj} {d:Int} (h:sQ a d=(r,0)):rightL a=true∧0<=d∧rightL r=true∧∀ x y,aO r x y=true↔∀ u v,x - d<=u->u<=x+d->y - d<=v->v<=y+d->aO a u v=true:=by
 unfold sQ at h;by_cases hv:(decide (0<=d)&&(decide (d<=1048576)&&rightL a))=true
 ·rw[if_pos hv]at h;simp only[and_eq_true,decide_eq_true_eq]at hv;obtain⟨h0,h1,hr⟩:=hv;by_cases h200:(aR (jG d (dX d a))).length>200
  ·rw[if_pos h200]at h;simp at h
  ·rw[if_neg h200]at h;simp only[Prod.mk.injEq,and_true]at h;subst h;obtain⟨q1,q2⟩:=afx h0 hr;have hv:=(bV hr).1;refine⟨hr,h0,Cu q1 (fun x=>(q2 x).1) (fun x y hxy=>?_) (by omega),fun x y=>?_⟩
   ·have:=((q2 x).2 y).1 hxy x y (by omega) (by omega) (by omega) (by omega);exact mV hv this
   ·rw[Ct q1];exact (q2 x).2 y
 ·rw[if_neg hv]at h;simp at h
theorem aa0 (p:Nat->Bool) (N:Nat):(pq p (List.range N)=none->(List.range N).any p=false)∧(∀ i,pq p (List.range N)=some i->(List.range N).any p=true):=by
 refine⟨fun h=>?_,fun i h=>?_⟩
 ·rw[<- pX,h];rfl
 ·rw[<- pX,h];rfl
theorem EU {W O:Type} {step:Int->Option (Int ⊕ (W ⊕ O))} (N:Nat) (p:Nat->Bool) (w:W) (o:O)
 (h:∀ i,i < N->step (i:Int)=some (bif p i then .inr (.inr o)else .inl ((i+1:Nat):Int)))
 (hend:step (N:Int)=some (.inr (.inl w))) (n:Nat) (hn:N < n):iter step n (0:Int)=some (bif (List.range N).any p then .inr o else .inl w):=by
 have:=rz (l:=List.range N) (step:=step) (fun i=>((i:Nat):Int)) p w (fun _=>o) (fun i hi=>by
  rw[List.length_range]at hi;rw[List.getElem_range];exact h i hi) (by rw[List.length_range];exact hend) n (by rw[List.length_range];exact hn)
 rw[show ((0:Nat):Int)=0 from rfl]at this;rw[this];obtain⟨r1,r2⟩:=aa0 p N;cases hf:pq p (List.range N)with
 |none=>rw[r1 hf];rfl
 |some i=>rw[r2 i hf];rfl
theorem EW {n:Nat} {p:List bM} (hl:p.length<=1000) (hn:2000<=n):iter (mG n p (dV p)) n (0:Int)=some (bif (List.range p.length).any (aeu p)then .inr false else .inl ()):=by
 refine EU p.length (aeu p) () false (fun i hi=>?_) ?_ n (by omega)
 ·have nz:(((p.length:Nat):Int) != 0)=true:=by simp;intro h;rw[h]at hi;simp at hi
  have md:(i+1)%p.length < p.length:=Nat.mod_lt _ (by omega);have w:i64.wrap ((i:Int)+1)=((i+1:Nat):Int):=ay (by omega);have g1:at? (dV p) (((0:Nat):Int)+((i:Nat):Int))=some (fP p i):=by rw[bL (by rw[bW];exact hi),xA]
  have g2:at? (dV p) (((0:Nat):Int)+(((i+1)%p.length:Nat):Int))=some (fP p ((i+1)%p.length)):=by rw[bL (by rw[bW];exact md),xA]
  obtain⟨r,hr1,hr2⟩:=HY (n:=n) (ptA p 0) (ptA p i) (by omega);have g3:at? p 0=some (ptA p 0):=by rw[afk (by omega),<- O9]
  have g4:at? p ((i:Nat):Int)=some (ptA p i):=by rw[bn hi,<- O9]
  have dz:decide (((i:Nat):Int)>0)=decide (0 < i):=by rw[Bool.eq_iff_iff];simp
  have pt:bM.mk (fP p i).a_x (fP p i).a_y=ptA p i:=rfl;simp only[mG,bW,bJ hi,cond_true,aZ hi,g1,g2,bind_some,nz,w,Vg,aZ md,pt,J2,jX,nJ,g3,g4,hr1,hr2,dz,Option.map_some];unfold aeu;generalize Pb (ptA p i)=b1;generalize (((fP p i).a_x==(fP p i).b_x)==((fP p i).a_y==(fP p i).b_y))=b2;generalize (upP (fP p i)==upP (fP p ((i+1)%p.length)))=b3;generalize decide (0 < i)=b4;generalize Pd (ptA p 0) (ptA p i)=b5;cases b1<;>cases b2<;>cases b3<;>cases b4<;>cases b5<;>rfl
 ·simp only[mG,bW,nZ,cond_false]
theorem EX {n:Nat} {p:List bM} (hl:p.length<=1000) (hn:2000<=n) {i:Nat} (hi:i < p.length):
 iter (fD (dV p) ((i:Nat):Int)) n (((i+2:Nat):Int))=some (bif (List.range p.length).any fun k=>decide (i+2<=k)&&Oh p i k then .inr (.inr (.inr false))else .inl ()):=by
 have st:∀ k,k < p.length->fD (dV p) ((i:Nat):Int) ((k:Nat):Int)=some (bif Oh p i k then .inr (.inr (.inr (.inr false)))else .inl ((k+1:Nat):Int)):=by
  intro k hk;have g1:at? (dV p) (((0:Nat):Int)+((i:Nat):Int))=some (fP p i):=by rw[bL (by rw[bW];exact hi),xA]
  have g2:at? (dV p) (((0:Nat):Int)+((k:Nat):Int))=some (fP p k):=by rw[bL (by rw[bW];exact hk),xA]
  have w:i64.wrap (i64.wrap (((i:Nat):Int)+((p.length:Nat):Int)) - ((k:Nat):Int))=((i+p.length - k:Nat):Int):=by rw[bH (x:=((i:Nat):Int)+((p.length:Nat):Int)) (by omega) (by omega),bH (by omega) (by omega)];omega
  have dz:decide (((i+p.length - k:Nat):Int)>1)=decide (i+p.length - k>1):=by rw[Bool.eq_iff_iff,decide_eq_true_eq,decide_eq_true_eq];omega
  simp only[fD,bW,bJ hk,cond_true,aZ hi,aZ hk,g1,g2,bind_some,w,dz,A8,nJ,Option.map_some,ay (show k < 9223372036854775807 by omega)];unfold Oh;cases decide (i+p.length - k>1)<;>cases WU (fP p i) (fP p k)<;>rfl
 have main:∀ m k,k+m=p.length->∀ f,m < f->iter (fD (dV p) ((i:Nat):Int)) f ((k:Nat):Int)=some (bif (List.range p.length).any fun j=>decide (k<=j)&&Oh p i j then .inr (.inr (.inr false))else .inl ()):=by
  intro m
  induction m with
  |zero=>
   intro k hk f hf;obtain⟨f,rfl⟩:∃ g,f=g+1:=⟨f - 1,by omega⟩;have:k=p.length:=(by omega);subst this;have e:((List.range p.length).any fun j=>decide (p.length<=j)&&Oh p i j)=false:=by
    rw[Bool.eq_false_iff];intro h;rw[any_eq_true]at h;obtain⟨j,h1,h2⟩:=h;rw[List.mem_range]at h1;simp only[and_eq_true,decide_eq_true_eq]at h2;omega
   rw[e];refine aW ?_;simp only[fD,bW,nZ,cond_false]
  |succ m ih=>
   intro k hk f hf;obtain⟨f,rfl⟩:∃ g,f=g+1:=⟨f - 1,by omega⟩;have hkl:k < p.length:=(by omega);have h1:=st k hkl;cases hb:Oh p i k with
   |true=>
    rw[hb]at h1;have e:((List.range p.length).any fun j=>decide (k<=j)&&Oh p i j)=true:=by
     rw[any_eq_true];exact⟨k,List.mem_range.2 hkl,by simp[hb]⟩
    rw[e];exact aW h1
   |false=>
    rw[hb]at h1;rw[bU h1,ih (k+1) (by omega) f (by omega)];congr 2;rw[Bool.eq_iff_iff,any_eq_true,any_eq_true];constructor
    ·rintro⟨j,j1,j2⟩;simp only[and_eq_true,decide_eq_true_eq]at j2;exact⟨j,j1,by simp only[and_eq_true,decide_eq_true_eq];exact⟨by omega,j2.2⟩⟩
    ·rintro⟨j,j1,j2⟩;simp only[and_eq_true,decide_eq_true_eq]at j2;refine⟨j,j1,?_⟩;simp only[and_eq_true,decide_eq_true_eq];refine⟨?_,j2.2⟩;rcases Nat.lt_or_ge k j with h |h
     ·omega
     ·have:j=k:=(by omega);subst this;rw[hb]at j2;simp at j2
 by_cases h2:i+2<=p.length
 ·exact main (p.length - (i+2)) (i+2) (by omega) n (by omega)
 ·obtain⟨n,rfl⟩:∃ g,n=g+1:=⟨n - 1,by omega⟩;have e:((List.range p.length).any fun j=>decide (i+2<=j)&&Oh p i j)=false:=by
   rw[Bool.eq_false_iff];intro h;rw[any_eq_true]at h;obtain⟨j,h1,h2⟩:=h;rw[List.mem_range]at h1;simp only[and_eq_true,decide_eq_true_eq]at h2;omega
  rw[e];have d:decide (((i+2:Nat):Int) < ((p.length:Nat):Int))=false:=by rw[decide_eq_false_iff_not];omega
  refine aW ?_;simp only[fD,bW,d,cond_false]
theorem EY {n:Nat} {p:List bM} (hl:p.length<=1000) (hn:2000<=n):iter (mH n (dV p)) n (0:Int)=some (bif (List.range p.length).any fun i=>(List.range p.length).any fun k=>decide (i+2<=k)&&Oh p i k then .inr false else .inl ()):=by
 refine EU p.length _ () false (fun i hi=>?_) ?_ n (by omega)
 ·have w2:i64.wrap ((i:Int)+2)=((i+2:Nat):Int):=by rw[bH (by omega) (by omega)];omega
  simp only[mH,bW,bJ hi,cond_true,w2,EX hl hn hi,ay (show i < 9223372036854775807 by omega)];cases (List.range p.length).any fun k=>decide (i+2<=k)&&Oh p i k<;>rfl
 ·simp only[mH,bW,nZ,cond_false]
theorem LW {n:Nat} (p:List bM) (hn:2000<=n):sK n p=some (LB p):=by
 unfold sK LB;by_cases h4:p.length < 4
 ·have d1:decide (((p.length:Nat):Int) < 4)=true:=by simp;omega
  have d2:decide (4<=p.length)=false:=by simp;omega
  rw[d1,d2];rfl
 ·have d1:decide (((p.length:Nat):Int) < 4)=false:=by simp;omega
  have d2:decide (4<=p.length)=true:=by simp;omega
  by_cases h60:p.length>60
  ·have d3:decide (((p.length:Nat):Int)>60)=true:=(by simp;omega);have d4:decide (p.length<=60)=false:=(by simp;omega);rw[d1,d2,d3,d4];rfl
  ·have d3:decide (((p.length:Nat):Int)>60)=false:=(by simp;omega);have d4:decide (p.length<=60)=true:=(by simp;omega);have g:at? (dV p) (((0:Nat):Int)+0)=some (fP p 0):=by
    have:=bL (l:=dV p) (i:=0) (by rw[bW];omega);rw[xA]at this;exact this
   have i0:inb 0 (dV p).length=true:=by
    have:=aZ (i:=0) (n:=(dV p).length) (by rw[bW];omega);simpa using this
   rw[d1,d2,d3,d4];simp only[cond_false,bind_some,yY (n:=n) (p:=p) (by omega) (by omega),EW (n:=n) (p:=p) (by omega) hn,Bool.true_and];cases (List.range p.length).any (aeu p)with
   |true=>rfl
   |false=>
    simp only[cond_false,gW,EY (n:=n) (p:=p) (by omega) hn];cases (List.range p.length).any fun i=>(List.range p.length).any fun k=>decide (i+2<=k)&&Oh p i k with
    |true=>rfl
    |false=>
     simp only[cond_false,gW,i0,cond_true,g,bind_some,jX];rfl
def zH (p:List bM) (x:Int):List Int:=((dV p).filter fun s=>!upP s&&(decide (min s.a_x s.b_x<=x)&&decide (x < max s.a_x s.b_x))).map (·.a_y)
def Bd (x0 x1:Int):List Int->List aj
 |a::b::l=>⟨x0,a,x1,b⟩::Bd x0 x1 l
 |_=>[]
def xsP (p:List bM):List Int:=aaH (p.map (·.x))
def RJ (p:List bM):List aj:=(dN (fun a b=>Bd a b (iw ltI (zH p a))) (xsP p)).flatten
def vT (p:List bM):List aj×Int:=if LB p=true then (if (RJ p).length>200 then ([],6)else (RJ p,0))else ([],10)
theorem aa1 {p:List bM} (h:LB p=true):4<=p.length∧p.length<=60:=by
 unfold LB at h;simp only[and_eq_true,decide_eq_true_eq]at h;exact⟨h.1,h.2.1⟩
theorem Dz {n:Nat} {p:List bM} (hl:p.length<=1000) (hn:2000<=n):iter (iZ p) n ((0:Int),([]:List Int))=some (p.map (·.x)):=by
 have:=bD (l:=p) (step:=iZ p) (fun i (s:List Int)=>((i:Int),s)) (fun r s=>s++[r.x]) (fun s=>s) (fun i s=>s.length<=i)
  (fun i hi s hs=>?_) (fun s hs=>by simp[iZ]) n (by omega) [] (Nat.le_refl _)
 ·rw[show ((0:Nat):Int)=0 from rfl]at this;rw[this];have gen:∀ (ys:List bM) (s:List Int),ys.foldl (fun s r=>s++[r.x]) s=s++ys.map (·.x):=by
   intro ys
   induction ys with
   |nil=>intro s;simp
   |cons y ys ih=>intro s;rw[foldl_cons,ih];simp
  congr 1;simpa using gen p []
 ·have ap:bq s.length s.length (sub ([(p[i]).x]:List Int) 0 1).length 1 8=true:=bf (n:=1) (by omega) (by simp only[maxLen];omega);simp only[iZ,bJ hi,cond_true,bn hi,bind_some,ap,dw,aC];refine⟨?_,by simp;omega⟩;rw[ay (by omega)];rfl
theorem DF {n:Nat} {p:List bM} (hl:p.length<=1000) (hn:2000<=n) (es:List Int) (i:Nat) (hi:i < es.length):iter (ja ((),es) (dV p) ((i:Nat):Int)) n ((0:Int),([]:List Int))=some (zH p es[i]):=by
 have:=bD (l:=dV p) (step:=ja ((),es) (dV p) ((i:Nat):Int)) (fun i (s:List Int)=>((i:Int),s)) (fun r s=>bif !upP r&&(decide (min r.a_x r.b_x<=es[i])&&decide (es[i] < max r.a_x r.b_x))then s++[r.a_y]else s) (fun s=>s) (fun i s=>s.length<=i)
  (fun j hj s hs=>?_) (fun s hs=>by simp[ja]) n (by rw[bW];omega) [] (Nat.le_refl _)
 ·rw[show ((0:Nat):Int)=0 from rfl]at this;rw[this];have gen:∀ (ys:List fV) (s:List Int),ys.foldl (fun s r=>bif !upP r&&(decide (min r.a_x r.b_x<=es[i])&&decide (es[i] < max r.a_x r.b_x))then s++[r.a_y]else s) s=s++(ys.filter fun s=>!upP s&&(decide (min s.a_x s.b_x<=es[i])&&decide (es[i] < max s.a_x s.b_x))).map (·.a_y):=by
   intro ys
   induction ys with
   |nil=>intro s;simp
   |cons y ys ih=>
    intro s;rw[foldl_cons,ih,List.filter_cons];cases !upP y&&(decide (min y.a_x y.b_x<=es[i])&&decide (es[i] < max y.a_x y.b_x))<;>simp
  congr 1;exact gen (dV p) []
 ·rw[bW]at hj;have g:at? (dV p) (((0:Nat):Int)+((j:Nat):Int))=some (dV p)[j]:=bL (by rw[bW];exact hj);have ap:bq s.length s.length (sub ([((dV p)[j]'(by rw[bW];exact hj)).a_y]:List Int) 0 1).length 1 8=true:=bf (n:=1) (by omega) (by simp only[maxLen];omega);generalize hr:(dV p)[j]'(by rw[bW];exact hj)=r at*;simp only[ja,bW,bJ hj,cond_true,aZ hj,g,bind_some,jX,aZ hi,bL hi,nJ,ap,dw,aC,ay (show j < 9223372036854775807 by omega)];cases upP r<;>cases decide (min r.a_x r.b_x<=es[i])<;>cases decide (es[i] < max r.a_x r.b_x)<;>refine⟨rfl,?_⟩<;>simp<;>omega
theorem Vq (x0 x1:Int):∀ l:List Int,(Bd x0 x1 l).length<=l.length
 |[]=>by simp[Bd]
 |[_]=>by simp[Bd]
 |a::b::l=>by have:=Vq x0 x1 l;simp only[Bd,length_cons];omega
theorem DI {n:Nat} (es:List Int) (i:Nat) (hi:i+1 < es.length) (he:es.length<=10000) (w2 r8:List Int) (hw:w2.length=r8.length) (hr:r8.length<=1000) (out:List aj) (ho:out.length<=10000000) (hn:2000<=n):
 iter (fZ ((),es) ((i:Nat):Int) w2 r8) n ((0:Int),out)=some (out++Bd (es[i]'(by omega)) es[i+1] r8):=by
 have main:∀ (m k:Nat) (out:List aj),k+m=r8.length->out.length<=10000000+k->∀ f,m < f->iter (fZ ((),es) ((i:Nat):Int) w2 r8) f (((k:Nat):Int),out)=some (out++Bd (es[i]'(by omega)) es[i+1] (r8.drop k)):=by
  intro m
  induction m using Nat.strongRecOn with
  |ind m ih=>
   intro k out hk hko f hf;obtain⟨f,rfl⟩:∃ g,f=g+1:=⟨f - 1,by omega⟩;have w1:i64.wrap ((k:Int)+1)=((k+1:Nat):Int):=ay (by omega);have w3:i64.wrap ((k:Int)+2)=((k+2:Nat):Int):=(by rw[bH (by omega) (by omega)];omega);have w4:i64.wrap ((i:Int)+1)=((i+1:Nat):Int):=ay (by omega);by_cases h2:k+1 < r8.length
   ·have d:decide (((k+1:Nat):Int) < ((w2.length:Nat):Int))=true:=(by rw[hw];exact bJ h2);have ap:bq out.length out.length (sub ([(aj.mk (es[i]'(by omega)) (r8[k]'(by omega)) es[i+1] r8[k+1])]:List aj) 0 1).length 1 32=true:=bf (n:=1) (by omega) (by simp only[maxLen];omega);have st:fZ ((),es) ((i:Nat):Int) w2 r8 (((k:Nat):Int),out)=some (.inl (((k+2:Nat):Int),out++[aj.mk (es[i]'(by omega)) (r8[k]'(by omega)) es[i+1] r8[k+1]])):=by
     simp only[fZ,w1,w3,w4,d,cond_true,aZ (show i < es.length by omega),bL (show i < es.length by omega),bind_some,aZ (show k < w2.length by omega),bL (show k < r8.length by omega),aZ hi,bL hi,aZ (show k+1 < w2.length by omega),bL h2,ap,dw,aC];rfl
    have dr:r8.drop k=r8[k]::r8[k+1]::r8.drop (k+2):=(by rw[drop_eq_getElem_cons (by omega),drop_eq_getElem_cons h2]);rw[bU st,ih (m - 2) (by omega) (k+2) _ (by omega) (by rw[length_append,List.length_singleton];omega) f (by omega),dr];simp[Bd]
   ·have d:decide (((k+1:Nat):Int) < ((w2.length:Nat):Int))=false:=(by rw[hw,decide_eq_false_iff_not];omega);have e:Bd (es[i]'(by omega)) es[i+1] (r8.drop k)=[]:=by
     have hl:(r8.drop k).length<=1:=by rw[length_drop];omega
     match r8.drop k,hl with
     |[],_=>rfl
     |[_],_=>rfl
     |_::_::_,h=>simp at h
    rw[e,append_nil];refine aW ?_;simp only[fZ,w1,d,cond_false,aC,cond_true]
 have:=main r8.length 0 out (by omega) (by omega) n (by omega);rw[show ((0:Nat):Int)=0 from rfl,List.drop_zero]at this;exact this
theorem afy (p:List bM):(xsP p).length<=p.length:=by
 have h:=kT (iw ltI (p.map (·.x)));rw[bC,length_map]at h;exact h
theorem RL (p:List bM) (x:Int):(zH p x).length<=p.length:=by
 unfold zH;rw[length_map,<- bW p];exact length_filter_le _ _
theorem xD {α:Type} (b:Nat):∀ l:List (List α),(∀ x∈l,x.length<=b)->l.flatten.length<=l.length*b
 |[],_=>by simp
 |x::l,h=>by
  have h1:=xD b l fun y hy=>h y (mem_cons_of_mem _ hy);have h2:=h x mem_cons_self;rw[List.flatten_cons,length_append,length_cons,Nat.add_mul];omega
theorem DJ {n:Nat} {p:List bM} (hl:p.length<=1000) (hn:2000<=n):
 iter (jb n ((),xsP p) (dV p)) n ((0:Int),([]:List aj))=some (RJ p):=by
 have hx:=afy p;obtain⟨p1,p2⟩:=kJ (fun a b=>Bd a b (iw ltI (zH p a))) (xsP p)
 let C:=dN (fun a b=>Bd a b (iw ltI (zH p a))) (xsP p)
 have hC:C.length=(xsP p).length - 1:=p1;have cl:∀ c∈C,c.length<=1000:=by
  intro c hc;obtain⟨i,hi,rfl⟩:=mem_iff_getElem.1 hc;have:=p2 i (by omega) hi;show (C[i]).length<=1000;rw[show C[i]=_ from this];have h1:=Vq (xsP p)[i] (xsP p)[i+1] (iw ltI (zH p (xsP p)[i]));rw[bC]at h1;have h2:=RL p (xsP p)[i];omega
 have bl:∀ i,((C.take i).flatten).length<=1000*1000:=by
  intro i;have h1:=xD 1000 (C.take i) fun x hx=>cl x (List.mem_of_mem_take hx);have h2:(C.take i).length<=1000:=by rw[length_take];omega
  exact Nat.le_trans h1 (Nat.mul_le_mul_right _ h2)
 have main:=fG (step:=jb n ((),xsP p) (dV p)) (fun i=>(((i:Nat):Int),(C.take i).flatten)) C.length (RJ p) (fun i hi=>?_) ?_ n (by omega)
 ·simpa using main
 ·have hi2:i+1 < (xsP p).length:=by omega
  have hw:i64.wrap ((((xsP p).length:Nat):Int) - 1)=((C.length:Nat):Int):=by rw[bH (by omega) (by omega)];omega
  have bi:=bl i;have cr:=RL p (xsP p)[i];have e:C.take (i+1)=C.take i++[Bd (xsP p)[i] (xsP p)[i+1] (iw ltI (zH p (xsP p)[i]))]:=by
   rw[take_succ_eq_append_getElem hi];congr 2;exact p2 i hi2 hi
  simp only[jb,hw,bJ hi,cond_true,length_nil,aC,DF hl hn (xsP p) i (by omega),bind_some];rw[jV (by omega) (by omega)];simp only[bind_some];rw[DI (xsP p) i hi2 (by omega) (zH p (xsP p)[i]) (iw ltI (zH p (xsP p)[i])) (by rw[bC]) (by rw[bC];omega) _ (by omega) hn];simp only[bind_some,aC,cond_true,e,List.flatten_append,List.flatten_cons,List.flatten_nil,append_nil,ay (show i < 9223372036854775807 by omega)]
 ·have hw:i64.wrap ((((xsP p).length:Nat):Int) - 1)=(((xsP p).length:Nat):Int) - 1:=bH (by omega) (by omega);have d:decide (((C.length:Nat):Int) < (((xsP p).length:Nat):Int) - 1)=false:=by rw[decide_eq_false_iff_not];omega
  simp only[jb,hw,d,cond_false,aC,cond_true,List.take_length];rfl
theorem Kc {n:Nat} (p:List bM) (hn:2000<=n):qg n p=some (vT p):=by
 unfold qg vT;rw[LW p hn];simp only[bind_some];cases hr:LB p with
 |false=>rfl
 |true=>
  obtain⟨_,hl⟩:=aa1 hr;simp only[Bool.not_true,cond_false,length_nil,aC,cond_true,Dz (n:=n) (p:=p) (by omega) hn,bind_some,if_true];rw[jV (by rw[length_map];omega) (by rw[length_map];omega)];simp only[bind_some,bC,aC,cond_true];rw[ji (by rw[bC,length_map];omega) (by rw[bC,length_map];omega)];simp only[bind_some,yY (n:=n) (p:=p) (by omega) (by omega)];have hE:dS (iw ltI (p.map (·.x)))=xsP p:=rfl;rw[hE,DJ (by omega) hn];simp only[bind_some,bB,aC,cond_true];by_cases h200:(RJ p).length>200
  ·have:decide ((((RJ p).length:Nat):Int)>200)=true:=(by simp;omega);rw[this,if_pos h200];rfl
  ·have:decide ((((RJ p).length:Nat):Int)>200)=false:=(by simp;omega);rw[this,if_neg h200];rfl
theorem Za (p:List bM):(vT p).1.length<=200:=by
 unfold vT;split
 ·split
  ·simp
  ·simp;omega
 ·simp
def aeB:qE:=qE.mk 0 0 [] []
def findLot (land:List qE) (id:Int):qE×Bool:=match land.find? fun t=>t.id==id with
 |some t=>(t,true)
 |none=>(aeB,false)
theorem aa2 {α:Type} (p:α->Bool) (l:List α):(∃ (i:Nat) (h:i < l.length),pq p l=some i∧l.find? p=some l[i])∨(pq p l=none∧l.find? p=none):=by
 rcases Ce p l with ⟨i,hi,h1,h2,h3⟩ |⟨h1,h2⟩
 ·refine .inl ⟨i,hi,h1,?_⟩;rw[List.find?_eq_some_iff_getElem];exact⟨h2,i,hi,rfl,fun j hj=>by simpa using h3 j hj⟩
 ·refine .inr ⟨h1,?_⟩;rw[List.find?_eq_none];intro x hx;rw[h2 x hx];simp
def aeC:List ByteArray:=[⟨#[104,111,109,101]⟩,⟨#[115,104,111,112]⟩,⟨#[119,111,114,107]⟩,⟨#[112,97,114,107]⟩,⟨#[112,108,97,110,116]⟩,⟨#[104,97,108,108]⟩]
def nameOf (use:Int):Option ByteArray:=at? aeC use
theorem RN {V O:Type} {step:V->Option (V ⊕ O)} (R:Nat->V->Prop) (N:Nat) (Q:O->Prop) (h:∀ i v,i < N->R i v->∃ v',step v=some (.inl v')∧R (i+1) v') (hN:∀ v,R N v->∃ o,step v=some (.inr o)∧Q o):
 ∀ n,N < n->∀ v,R 0 v->∃ o,iter step n v=some o∧Q o:=by
 have main:∀ k i n v,i+k=N->k < n->R i v->∃ o,iter step n v=some o∧Q o:=by
  intro k
  induction k with
  |zero=>
   intro i n v hi hn hR;obtain⟨m,rfl⟩:∃ m,n=m+1:=⟨n - 1,by omega⟩;have:i=N:=(by omega);subst this;obtain⟨o,h1,h2⟩:=hN v hR;exact⟨o,aW h1,h2⟩
  |succ k ih=>
   intro i n v hi hn hR;obtain⟨m,rfl⟩:∃ m,n=m+1:=⟨n - 1,by omega⟩;obtain⟨v',h1,h2⟩:=h i v (by omega) hR;obtain⟨o,h3,h4⟩:=ih (i+1) m v' (by omega) (by omega) h2;exact⟨o,by rw[bU h1,h3],h4⟩
 intro n hn v hR;exact main N 0 n v (by omega) hn hR
def zI (z:ve):List aj:=if (vT z.corners).2=0 then (vT z.corners).1 else []
theorem aa3 (z:ve):(zI z).length<=200:=by
 unfold zI;split
 ·exact Za _
 ·simp
theorem Oj {n:Nat} (z:ve) (hn:2000<=n):vK n z=some (zI z):=by
 unfold vK zI;rw[Kc _ hn];simp only[bind_some,bB,aC,cond_true];by_cases h:(vT z.corners).2=0
 ·have:((vT z.corners).2 != 0)=false:=by simp[h]
  rw[this,if_pos h];rfl
 ·have:((vT z.corners).2 != 0)=true:=by simp[h]
  rw[this,if_neg h];rfl
def bG (a b:aj):aj:=⟨max a.x0 b.x0,max a.y0 b.y0,min a.x1 b.x1,min a.y1 b.y1⟩
theorem Ke (a:aj):AP a=some (bif OkR a then (a,true)else (⟨0,0,0,0⟩,false)):=by
 unfold AP;rw[rC];simp only[bind_some,nJ]
theorem RO (a b:aj):yQ a b=some (bif OkR a&&(OkR b&&OkR (bG a b))then (bG a b,true)else (⟨0,0,0,0⟩,false)):=by
 unfold yQ;rw[rC,rC];simp only[bind_some,nJ];rw[show aj.mk (max a.x0 b.x0) (max a.y0 b.y0) (min a.x1 b.x1) (min a.y1 b.y1)=bG a b from rfl,Ke];simp only[bind_some];generalize OkR (bG a b)=c;cases OkR a<;>cases OkR b<;>cases c<;>rfl
def aeD (r:aj):Int:=i64.wrap (i64.wrap (r.x1 - r.x0)*i64.wrap (r.y1 - r.y0))
theorem ac4 {r:aj} (h:OkR r=true):WR r=some (aeD r):=by
 unfold WR;rw[Ke,h];rfl
def Zb (x:aj) (n:Int) (y:aj):Int:=bif OkR x&&(OkR y&&OkR (bG x y))then i64.wrap (n+aeD (bG x y))else n
def Cx (a b:List aj):Int:=a.foldl (fun n x=>b.foldl (Zb x) n) 0
theorem afz {α β:Type} (c:Bool) (a:α) (u v:β):(bif c then (a,u)else (a,v)).1=a:=by cases c<;>rfl
theorem EZ {n:Nat} (b:List aj) (x:aj) (hb:b.length<=1000) (hn:2000<=n) (m u v:Int):∃ o,iter (mI n b x) n (m,(0:Int),u,v)=some o∧o.1=b.foldl (Zb x) m:=by
 refine RN (fun i (w:Int×Int×Int×Int)=>w.2.1=(i:Int)∧w.1=(b.take i).foldl (Zb x) m) b.length (fun (o:Int×Int×Int)=>o.1=b.foldl (Zb x) m) (fun i w hi hR=>?_) (fun w hR=>?_) n (by omega) _ ⟨rfl,rfl⟩
 ·obtain⟨w1,w2,w3,w4⟩:=w;obtain⟨h1,h2⟩:=hR;simp only at h1 h2;subst h1;have e:(b.take (i+1)).foldl (Zb x) m=Zb x w1 b[i]:=by rw[take_succ_eq_append_getElem hi,List.foldl_append,<- h2];rfl
  simp only[mI,bJ hi,cond_true,bn hi,bind_some,RO];have e0:Zb x w1 b[i]=bif OkR x&&(OkR b[i]&&OkR (bG x b[i]))then i64.wrap (w1+aeD (bG x b[i]))else w1:=rfl;rw[e0]at e;cases hc:OkR x&&(OkR b[i]&&OkR (bG x b[i]))with
  |false=>
   rw[hc]at e;simp only[cond_false,Bool.not_false,cond_true,bind_some];exact⟨_,rfl,ay (by omega),e.symm⟩
  |true=>
   rw[hc]at e;have hcc:OkR (bG x b[i])=true:=by
    revert hc;generalize OkR (bG x b[i])=c;cases c
    ·cases OkR x<;>cases OkR b[i]<;>simp
    ·simp
   simp only[cond_true,Bool.not_true,cond_false,ac4 hcc,bind_some,iE];rw[show ∀ u v:Int,sub [u,v] 0 2=[u,v]from fun _ _=>rfl,Ru _ _ (by omega)];simp only[bind_some,nJ];simp only[show ∀ u v:Int,eqL [u,v].length 2=true from fun _ _=>rfl,cond_true,bind_some];refine⟨_,rfl,ay (show i < 9223372036854775807 by omega),?_⟩;rw[e];exact afz _ _ _ _
 ·obtain⟨w1,w2,w3,w4⟩:=w;obtain⟨h1,h2⟩:=hR;simp only at h1 h2;subst h1;simp only[mI,nZ,cond_false];exact⟨_,rfl,by rw[h2,List.take_length]⟩
theorem LX {n:Nat} (a b:List aj) (ha:a.length<=1000) (hb:b.length<=1000) (hn:2000<=n):∃ q,sM n a b=some (Cx a b,q):=by
 unfold sM;obtain⟨o,h1,h2⟩:=RN (step:=mJ n a b) (fun i (w:Int×Int×Int×Int)=>w.2.1=(i:Int)∧w.1=(a.take i).foldl (fun n x=>b.foldl (Zb x) n) 0) a.length (fun (o:Int×Int×Int)=>o.1=Cx a b) (fun i w hi hR=>by
  obtain⟨w1,w2,w3,w4⟩:=w;obtain⟨h1,h2⟩:=hR;simp only at h1 h2;subst h1;obtain⟨o,g1,g2⟩:=EZ (n:=n) b a[i] hb hn w1 w3 w4;obtain⟨o1,o2,o3⟩:=o;simp only[mJ,bJ hi,cond_true,bn hi,bind_some,g1];refine⟨_,rfl,ay (by omega),?_⟩;simp only at g2;rw[take_succ_eq_append_getElem hi,List.foldl_append,<- h2,g2];rfl) (fun w hR=>by
  obtain⟨w1,w2,w3,w4⟩:=w;obtain⟨h1,h2⟩:=hR;simp only at h1 h2;subst h1;simp only[mJ,nZ,cond_false];exact⟨_,rfl,by rw[h2,List.take_length];rfl⟩) n (by omega) (0,0,1048576,0) ⟨rfl,rfl⟩
 obtain⟨o1,o2,o3⟩:=o;simp only at h2;subst h2;exact⟨_,by rw[h1];rfl⟩
def vU (zs:List ve) (area:List aj):List Int:=bif rightL area then zs.map fun z=>Cx area (zI z)else []
theorem LY {n:Nat} (p:wX) (a:List aj) (hz:p.zones.length<=100) (ha:a.length<=900) (hn:2000<=n):sN n p a=some (vU p.zones a):=by
 unfold sN vU;rw[l6 (by omega) (by omega) (by omega)];simp only[bind_some];cases rightL a with
 |false=>rfl
 |true=>
  have:=bD (l:=p.zones) (step:=mK n p a) (fun i (s:List Int)=>((i:Int),s)) (fun z s=>s++[Cx a (zI z)]) (fun s=>s) (fun i s=>s.length<=i)
   (fun i hi s hs=>?_) (fun s hs=>by simp[mK]) n (by omega) [] (Nat.le_refl _)
  ·rw[show ((0:Nat):Int)=0 from rfl]at this;simp only[Bool.not_true,cond_false,length_nil,aC,cond_true,this,bind_some,bB];congr 1;have gen:∀ (ys:List ve) (s:List Int),ys.foldl (fun s z=>s++[Cx a (zI z)]) s=s++ys.map fun z=>Cx a (zI z):=by
    intro ys
    induction ys with
    |nil=>intro s;simp
    |cons y ys ih=>intro s;rw[foldl_cons,ih];simp
   exact gen p.zones []
  ·have cl:=aa3 p.zones[i];obtain⟨q,hq⟩:=LX (n:=n) a (zI p.zones[i]) (by omega) (by omega) hn;have ap:bq s.length s.length (sub ([Cx a (zI p.zones[i])]:List Int) 0 1).length 1 8=true:=bf (n:=1) (by omega) (by simp only[maxLen];omega);simp only[mK,bJ hi,cond_true,bn hi,bind_some,Oj _ hn,bB,aC,hq,ap,dw];refine⟨?_,by simp;omega⟩;rw[ay (by omega)];rfl
theorem NI (zs:List ve) (a:List aj):(vU zs a).length<=zs.length:=by
 unfold vU;cases rightL a<;>simp
def vk (zs:List ve) (l:List Int) (m:Nat):Int:=(List.range m).foldl (fun (b:Int) i=>if (!((zs.getD i ⟨⟨#[]⟩,false,[]⟩).overlay)&&(decide (l.getD i 0>0)&&(decide (b < 0) || decide (l.getD i 0>l.getD b.toNat 0))))=true then (i:Int)else b) (-1)
def Cy (zs:List ve) (l:List Int) (i:Nat):Bool:=decide ((i:Int)=vk zs l l.length) || ((zs.getD i ⟨⟨#[]⟩,false,[]⟩).overlay&&decide (l.getD i 0>0))
def ofZ (zs:List ve) (area:List aj):List ByteArray:=((List.range (vU zs area).length).filter (Cy zs (vU zs area))).map fun i=>(zs.getD i ⟨⟨#[]⟩,false,[]⟩).name
theorem NJ (zs:List ve) (l:List Int):∀ m,vk zs l m= -1∨∃ k:Nat,k < m∧vk zs l m=(k:Int)
 | 0=> .inl rfl
 |m+1=>by
  have ih:=NJ zs l m;unfold vk;rw[List.range_succ,List.foldl_append];simp only[foldl_cons,List.foldl_nil];split
  ·exact .inr ⟨m,by omega,rfl⟩
  ·rcases ih with h |⟨k,h1,h2⟩
   ·exact .inl h
   ·exact .inr ⟨k,by omega,h2⟩
theorem E8 {α:Type} {l:List α} {i:Nat} (d:α) (h:i < l.length):l.getD i d=l[i]:=by simp[h]
theorem LZ {n:Nat} (p:wX) (l:List Int) (hl:l.length<=p.zones.length) (hz:p.zones.length<=100) (hn:2000<=n):iter (mM p l) n (((-1):Int),(0:Int))=some (vk p.zones l l.length):=by
 have main:=fG (step:=mM p l) (fun i=>(vk p.zones l i,((i:Nat):Int))) l.length (vk p.zones l l.length) (fun i hi=>?_) (by simp[mM]) n (by omega)
 ·exact main
 ·have hz':i < p.zones.length:=by omega
  have e:vk p.zones l (i+1)=if (!(p.zones[i]).overlay&&(decide (l[i]>0)&&(decide (vk p.zones l i < 0) || decide (l[i]>l.getD (vk p.zones l i).toNat 0))))=true then (i:Int)else vk p.zones l i:=by
   conv=>lhs;unfold vk
   rw[List.range_succ,List.foldl_append];simp only[foldl_cons,List.foldl_nil,E8 _ hz',E8 _ hi];rfl
  rw[e];rcases NJ p.zones l i with h |⟨k,h1,h2⟩
  ·rw[h];have d:decide ((-1:Int) < 0)=true:=rfl;simp only[mM,bJ hi,cond_true,aZ hi,bL hi,bind_some,bn hz',d,nJ,Bool.true_or,Bool.and_true,ay (show i < 9223372036854775807 by omega)];cases (p.zones[i]).overlay<;>cases decide (l[i]>0)<;>rfl
  ·rw[h2];have d:decide (((k:Nat):Int) < 0)=false:=(by simp);have hk:k < l.length:=(by omega);simp only[mM,bJ hi,cond_true,aZ hi,bL hi,bind_some,bn hz',d,nJ,Bool.false_or,cond_false,aZ hk,bL hk,Int.toNat_natCast,E8 _ hk,ay (show i < 9223372036854775807 by omega)];cases (p.zones[i]).overlay<;>cases decide (l[i]>0)<;>cases decide (l[i]>l[k])<;>rfl
theorem WZ {n:Nat} (p:wX) (a:List aj) (hz:p.zones.length<=100) (ha:a.length<=900) (hn:2000<=n):FW n p a=some (ofZ p.zones a):=by
 unfold FW;have sl:=NI p.zones a;rw[LY p a hz ha hn];simp only[bind_some];rw[LZ p _ sl hz hn];simp only[bind_some,length_nil,aC,cond_true];unfold ofZ;generalize hL:vU p.zones a=l at*
 have:=bD (l:=List.range l.length) (step:=vL p l (vk p.zones l l.length)) (fun i (s:List ByteArray)=>((i:Int),s)) (fun i s=>bif Cy p.zones l i then s++[(p.zones.getD i ⟨⟨#[]⟩,false,[]⟩).name]else s) (fun s=>s) (fun i s=>s.length<=i)
  (fun i hi s hs=>?_) (fun s hs=>by rw[List.length_range];simp[vL]) n (by rw[List.length_range];omega) [] (Nat.le_refl _)
 ·rw[show ((0:Nat):Int)=0 from rfl]at this;simp only[this,bind_some,bB,aC,cond_true];congr 1;have gen:∀ (ys:List Nat) (s:List ByteArray),ys.foldl (fun s i=>bif Cy p.zones l i then s++[(p.zones.getD i ⟨⟨#[]⟩,false,[]⟩).name]else s) s=s++(ys.filter (Cy p.zones l)).map fun i=>(p.zones.getD i ⟨⟨#[]⟩,false,[]⟩).name:=by
   intro ys
   induction ys with
   |nil=>intro s;simp
   |cons y ys ih=>
    intro s;rw[foldl_cons,ih,List.filter_cons];cases Cy p.zones l y<;>simp
  exact gen (List.range l.length) []
 ·rw[List.length_range]at hi;have hz':i < p.zones.length:=by omega
  rw[List.getElem_range];have ap:bq s.length s.length (sub ([(p.zones[i]).name]:List ByteArray) 0 1).length 1 16=true:=bf (n:=1) (by omega) (by simp only[maxLen];omega);have hb:(((i:Nat):Int)==vk p.zones l l.length)=decide (((i:Nat):Int)=vk p.zones l l.length):=by rw[Bool.eq_iff_iff];simp
  simp only[vL,bJ hi,cond_true,aZ hi,bL hi,bind_some,bn hz',hb,nJ,ap,dw,aC,Cy,E8 _ hz',E8 _ hi,ay (show i < 9223372036854775807 by omega)];cases decide (((i:Nat):Int)=vk p.zones l l.length)<;>cases (p.zones[i]).overlay<;>cases decide (l[i]>0)<;>refine⟨rfl,?_⟩<;>simp<;>omega
theorem afA (zs:List ve) (a:List aj):(ofZ zs a).length<=zs.length:=by
 unfold ofZ;rw[length_map];have h1:=length_filter_le (Cy zs (vU zs a)) (List.range (vU zs a).length);rw[List.length_range]at h1;have:=NI zs a;omega
def sEq (a b:ByteArray):Bool:=ByteArray.toList a==ByteArray.toList b
theorem DK {n:Nat} {l:List ByteArray} {a:ByteArray} (hl:l.length < 1099511627776) (hn:l.length < n):kF n l a=some (l.any (sEq a)):=by
 unfold kF;have e:uO n l a=WC n (fun x=>ByteArray.toList a==ByteArray.toList x) l:=by kernel_rfl
 rw[e,YM hl hn,bind_some,WB];rfl
theorem nu {n:Nat} {l:List ByteArray} {φ:(ByteArray×Unit)->Option Bool} (p:ByteArray->Bool) (h:∀ x∈l,φ (x,())=some (p x)) (hl:l.length < 1099511627776) (hn:l.length < n):dR n l φ=some (l.any p):=by
 unfold dR;have e:nI n l φ=yN n l φ:=by kernel_rfl
 rw[e,Dj p h hl hn,bind_some,WB]
def Pg (r:dD) (zs:List ByteArray):Bool:=(decide (r.zones=[]) || r.zones.any fun z=>zs.any (sEq z))&&!(r.except.any fun z=>zs.any (sEq z))
theorem L6 {n:Nat} (r:dD) (zs:List ByteArray) (h1:r.zones.length<=100) (h2:r.except.length<=100) (h3:zs.length<=100) (hn:2000<=n):nU n r zs=some (Pg r zs):=by
 have hf:∀ x:ByteArray,gY n x zs=some (zs.any (sEq x)):=fun x=>by unfold gY;rw[DK (by omega) (by omega)];rfl
 unfold nU Pg;rw[nu (fun z=>zs.any (sEq z)) (fun x _=>hf x) (by omega) (by omega),nu (fun z=>zs.any (sEq z)) (fun x _=>hf x) (by omega) (by omega)];simp only[bind_some,nJ];have e:(((r.zones.length:Nat):Int)==0)=decide (r.zones=[]):=by
  rw[Bool.eq_iff_iff,beq_iff_eq,decide_eq_true_eq];constructor
  ·intro h;exact List.length_eq_zero_iff.1 (by omega)
  ·intro h;rw[h];rfl
 rw[e];cases decide (r.zones=[])<;>cases (r.zones.any fun z=>zs.any (sEq z))<;>cases (r.except.any fun z=>zs.any (sEq z))<;>rfl
def l7 (zs:List ByteArray) (day:Int) (r:dD):Bool:=decide (r.from_<=day)&&((r.until_==0 || decide (day < r.until_))&&Pg r zs)
def L8 (rules:List dD) (zs:List ByteArray) (day:Int):List Nat:=(List.range rules.length).filter fun i=>(rules[i]?).any (l7 zs day)
abbrev aeE (r:dD):Prop:=r.zones.length<=100∧r.except.length<=100
theorem Ol {n:Nat} (p:wX) (zs:List ByteArray) (day:Int) (hr:∀ r∈p.rules,aeE r) (hl:p.rules.length<=100) (h3:zs.length<=100) (hn:2000<=n):vM n p zs day=some ((L8 p.rules zs day).map fun (i:Nat)=>(i:Int)):=by
 unfold vM L8
 have:=bD (l:=List.range p.rules.length) (step:=oC n p zs day) (fun i (s:List Int)=>((i:Int),s)) (fun i s=>bif (p.rules[i]?).any (l7 zs day)then s++[((i:Nat):Int)]else s) (fun s=>s) (fun i s=>s.length<=i)
  (fun i hi s hs=>?_) (fun s hs=>by rw[List.length_range];simp[oC]) n (by rw[List.length_range];omega) [] (Nat.le_refl _)
 ·rw[show ((0:Nat):Int)=0 from rfl]at this;simp only[length_nil,aC,cond_true,this,bind_some,bB];congr 1;have gen:∀ (ys:List Nat) (s:List Int),ys.foldl (fun s i=>bif (p.rules[i]?).any (l7 zs day)then s++[((i:Nat):Int)]else s) s=s++(ys.filter fun i=>(p.rules[i]?).any (l7 zs day)).map fun (i:Nat)=>(i:Int):=by
   intro ys
   induction ys with
   |nil=>intro s;simp
   |cons y ys ih=>
    intro s;rw[foldl_cons,ih,List.filter_cons];cases (p.rules[y]?).any (l7 zs day)<;>simp
  exact gen (List.range p.rules.length) []
 ·rw[List.length_range]at hi;rw[List.getElem_range];obtain⟨o1,o2⟩:=hr _ (getElem_mem hi);have ap:bq s.length s.length (sub ([((i:Nat):Int)]:List Int) 0 1).length 1 8=true:=bf (n:=1) (by omega) (by simp only[maxLen];omega);have eg:(p.rules[i]?).any (l7 zs day)=l7 zs day p.rules[i]:=by rw[List.getElem?_eq_getElem hi];rfl
  rw[eg];simp only[oC,bJ hi,cond_true,bn hi,bind_some,L6 _ zs o1 o2 h3 hn,nJ,ap,dw,aC,l7,ay (show i < 9223372036854775807 by omega)];cases decide ((p.rules[i]).from_<=day)<;>cases (p.rules[i]).until_==0<;>cases decide (day < (p.rules[i]).until_)<;>cases Pg p.rules[i] zs<;>refine⟨rfl,?_⟩<;>simp<;>omega
end Go.Proofs
