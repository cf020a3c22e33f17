/-
  What the printed functions of package slices and cmp come to.
-/
import Derived.Test.YtccijnckfbanfaaGreatDoorTD2
open Go.IntKind (i64)
open Option (bind_some)
open List (map_cons mem_cons append_assoc mem_append length_take mem_map all_eq_true mem_singleton nil_append length_append getElem_mem length_cons cons_append length_map mem_iff_getElem append_nil length_drop length_nil take_succ_eq_append_getElem mem_cons_of_mem foldl_cons mem_filter any_eq_true mem_cons_self length_singleton pairwise_cons drop_eq_getElem_cons length_filter_le mem_flatMap map_append pairwise_append getElem_drop)
open Bool (and_eq_true)
namespace Go.Proofs
open Go.Gb Go.RowKit
abbrev ltI (a b:Int):Bool:=decide (a < b)
theorem O6 (a b:Int):cmp_Less_int a b=some (ltI a b):=by simp[cmp_Less_int,cmp_isNaN_int]
theorem iF (a b:Int):cmp_Compare_int a b=some (if a < b then -1 else if b < a then 1 else 0):=by
 by_cases h1:a < b
 ·simp[cmp_Compare_int,cmp_isNaN_int,h1]
 ·by_cases h2:b < a
  ·simp[cmp_Compare_int,cmp_isNaN_int,h1,h2]
  ·simp[cmp_Compare_int,cmp_isNaN_int,h1,h2]
theorem UF {x:Nat} (k:Nat) (h:2 ^ k<=x):Go.Sort.bitsLen x=Go.Sort.bitsLen (x/2 ^ k)+k:=by
 have key:∀ m,Go.Sort.bitsLen x<=m+k↔Go.Sort.bitsLen (x/2 ^ k)<=m:=by
  intro m;rw[Go.Sort.bitsLen_le_iff,Go.Sort.bitsLen_le_iff,Nat.pow_add,Nat.div_lt_iff_lt_mul (Nat.two_pow_pos k)]
 have h1:=(key (Go.Sort.bitsLen (x/2 ^ k))).2 (Nat.le_refl _);have hk:k<=Go.Sort.bitsLen x:=by
  rcases Nat.lt_or_ge (Go.Sort.bitsLen x) k with hlt |hge
  ·have:=(Go.Sort.bitsLen_le_iff x (Go.Sort.bitsLen x)).1 (Nat.le_refl _);have h2:2 ^ Go.Sort.bitsLen x<=2 ^ k:=Nat.pow_le_pow_right (by omega) (by omega);omega
  ·exact hge
 have h2:=(key (Go.Sort.bitsLen x - k)).1 (by omega);omega
theorem ahA {v:Nat} (h:v < 256):IntKind.u8.wrap ((v:Nat):Int)=(v:Int):=by
 simp only[IntKind.wrap,IntKind.bits,IntKind.signed,Bool.false_and,Bool.false_eq_true,if_false];omega
set_option maxRecDepth 100000 in
theorem zq {x:Nat} (hx:x < 1152921504606846976):bits_Len (x:Int)=some ((Go.Sort.bitsLen x:Nat):Int):=by
 unfold bits_Len bits_Len64;have tab:∀ v:Fin 256,Vo (⟨#[0,1,2,2,3,3,3,3,4,4,4,4,4,4,4,4,5,5,5,5,5,5,5,5,5,5,5,5,5,5,5,5,6,6,6,6,6,6,6,6,6,6,6,6,6,6,6,6,6,6,6,6,6,6,6,6,6,6,6,6,6,6,6,6,7,7,7,7,7,7,7,7,7,7,7,7,7,7,7,7,7,7,7,7,7,7,7,7,7,7,7,7,7,7,7,7,7,7,7,7,7,7,7,7,7,7,7,7,7,7,7,7,7,7,7,7,7,7,7,7,7,7,7,7,7,7,7,7,8,8,8,8,8,8,8,8,8,8,8,8,8,8,8,8,8,8,8,8,8,8,8,8,8,8,8,8,8,8,8,8,8,8,8,8,8,8,8,8,8,8,8,8,8,8,8,8,8,8,8,8,8,8,8,8,8,8,8,8,8,8,8,8,8,8,8,8,8,8,8,8,8,8,8,8,8,8,8,8,8,8,8,8,8,8,8,8,8,8,8,8,8,8,8,8,8,8,8,8,8,8,8,8,8,8,8,8,8,8,8,8,8,8,8,8,8,8,8,8,8,8,8,8,8,8,8,8]⟩) ((v.val:Nat):Int)=some ((Go.Sort.bitsLen v.val:Nat):Int):=by decide +kernel
 have k32:(decide (0<=32)&&decide (32<=IntKind.u64.bits))=true:=rfl;have k16:(decide (0<=16)&&decide (16<=IntKind.u64.bits))=true:=rfl;have k8:(decide (0<=8)&&decide (8<=IntKind.u64.bits))=true:=rfl;have step:∀ (x k s:Nat),∃ y t:Nat,((bif (decide ((x:Int)>=((2 ^ k:Nat):Int)))then some (((x/2 ^ k:Nat):Int),((s+k:Nat):Int))else some ((x:Int),(s:Int))):Option (Int×Int))=some ((y:Int),(t:Int))∧Go.Sort.bitsLen x+s=Go.Sort.bitsLen y+t∧(y < 2 ^ k∨y=x/2 ^ k)∧t<=s+k:=by
  intro x k s;by_cases h:2 ^ k<=x
  ·have c:decide ((x:Int)>=((2 ^ k:Nat):Int))=true:=(by rw[decide_eq_true_eq];omega);refine⟨x/2 ^ k,s+k,by rw[c];rfl,?_,.inr rfl,Nat.le_refl _⟩;have:=UF k h;omega
  ·have c:decide ((x:Int)>=((2 ^ k:Nat):Int))=false:=(by rw[decide_eq_false_iff_not];omega);exact⟨x,s,by rw[c];rfl,rfl,.inl (by omega),by omega⟩
 have sh:∀ (v k:Nat),((v:Int)/2 ^ ((k:Nat):Int).toNat)=((v/2 ^ k:Nat):Int):=by
  intro v k;rw[Int.toNat_natCast]
  push_cast
  rfl
 obtain⟨y1,t1,e1,b1,c1,d1⟩:=step x 32 0;obtain⟨y2,t2,e2,b2,c2,d2⟩:=step y1 16 t1;obtain⟨y3,t3,e3,b3,c3,d3⟩:=step y2 8 t2;have s1:((bif (decide ((x:Int)>=(4294967296:Int)))then bif ((decide (0<=32)&&decide (32<=IntKind.u64.bits)))then some (((x:Int)/2 ^ (32:Int).toNat),(32:Int))else none else some ((x:Int),(0:Int))):Option (Int×Int))=some ((y1:Int),(t1:Int)):=by
  rw[k32,<- e1];rw[show ((x:Int)/2 ^ (32:Int).toNat)=((x/2 ^ 32:Nat):Int)from sh x 32];rfl
 have s2:((bif (decide ((y1:Int)>=(65536:Int)))then bif ((decide (0<=16)&&decide (16<=IntKind.u64.bits)))then some (((y1:Int)/2 ^ (16:Int).toNat),(i64.wrap ((t1:Int)+16)))else none else some ((y1:Int),(t1:Int))):Option (Int×Int))=some ((y2:Int),(t2:Int)):=by
  rw[k16,<- e2];rw[show ((y1:Int)/2 ^ (16:Int).toNat)=((y1/2 ^ 16:Nat):Int)from sh y1 16,show i64.wrap ((t1:Int)+16)=((t1+16:Nat):Int)from Mt (j:=16) (by omega)];rfl
 have s3:((bif (decide ((y2:Int)>=(256:Int)))then bif ((decide (0<=8)&&decide (8<=IntKind.u64.bits)))then some (((y2:Int)/2 ^ (8:Int).toNat),(i64.wrap ((t2:Int)+8)))else none else some ((y2:Int),(t2:Int))):Option (Int×Int))=some ((y3:Int),(t3:Int)):=by
  rw[k8,<- e3];rw[show ((y2:Int)/2 ^ (8:Int).toNat)=((y2/2 ^ 8:Nat):Int)from sh y2 8,show i64.wrap ((t2:Int)+8)=((t2+8:Nat):Int)from Mt (j:=8) (by omega)];rfl
 have hy:y3 < 256:=by
  have q1:(2:Nat) ^ 32=4294967296:=rfl;have q2:(2:Nat) ^ 16=65536:=rfl;have q3:(2:Nat) ^ 8=256:=rfl;rw[q1]at c1;rw[q2]at c2;rw[q3]at c3;omega
 simp only[s1,bind_some,s2,s3];rw[ahA hy,show Vo _ ((y3:Nat):Int)=_ from tab ⟨y3,hy⟩];have hb:Go.Sort.bitsLen y3<=8:=(Go.Sort.bitsLen_le_iff _ _).2 (by simpa using hy);simp only[bind_some];rw[lV (by omega),Mt (by omega)];congr 2;omega
theorem afp:VP aM:=by
 intro L h8 hL;have hb:Go.Sort.bitsLen L<=60:=(Go.Sort.bitsLen_le_iff _ _).2 (by omega);have hp:2 ^ Go.Sort.bitsLen L<=2 ^ 60:=Nat.pow_le_pow_right (by omega) hb;unfold aM;rw[mJ (by omega),zq hL,bind_some];have c:(decide ((0:Int)<=((Go.Sort.bitsLen L:Nat):Int))&&decide (((Go.Sort.bitsLen L:Nat):Int)<=((IntKind.u64.bits:Nat):Int)))=true:=by
  have:((IntKind.u64.bits:Nat):Int)=64:=rfl;rw[this,and_eq_true,decide_eq_true_eq,decide_eq_true_eq];omega
 rw[c,cond_true,Int.toNat_natCast,Int.one_mul,show ((2:Int) ^ Go.Sort.bitsLen L)=((2 ^ Go.Sort.bitsLen L:Nat):Int)by push_cast;rfl,mJ (by omega)]
theorem afq:Sg aN:=by
 intro r hr;have c13:(decide (0<=13)&&decide (13<=IntKind.u64.bits))=true:=rfl;have c7:(decide (0<=7)&&decide (7<=IntKind.u64.bits))=true:=rfl;have c17:(decide (0<=17)&&decide (17<=IntKind.u64.bits))=true:=rfl;have sl:∀ (v k:Nat),IntKind.u64.wrap ((v:Int)*2 ^ ((k:Nat):Int).toNat)=((v*2 ^ k%18446744073709551616:Nat):Int):=by
  intro v k;rw[Int.toNat_natCast,show ((v:Int)*2 ^ k)=((v*2 ^ k:Nat):Int)by push_cast;rfl];simp only[IntKind.wrap,IntKind.bits,IntKind.signed,Bool.false_and,Bool.false_eq_true,if_false];omega
 have sr:∀ (v k:Nat),((v:Int)/2 ^ ((k:Nat):Int).toNat)=((v/2 ^ k:Nat):Int):=by
  intro v k;rw[Int.toNat_natCast];push_cast;rfl
 have ha:r ^^^ (r*2 ^ 13%18446744073709551616) < 18446744073709551616:=Nat.xor_lt_two_pow (n:=64) (by omega) (by omega);have hb:(r ^^^ (r*2 ^ 13%18446744073709551616)) ^^^ ((r ^^^ (r*2 ^ 13%18446744073709551616))/2 ^ 7) < 18446744073709551616:=Nat.xor_lt_two_pow (n:=64) (by omega) (by omega);unfold aN;rw[c13,c7,c17];simp only[cond_true];rw[show IntKind.u64.wrap ((r:Int)*2 ^ (13:Int).toNat)=((r*2 ^ 13%18446744073709551616:Nat):Int)from sl r 13,Sd hr (by omega)];rw[show (((r ^^^ (r*2 ^ 13%18446744073709551616):Nat):Int)/2 ^ (7:Int).toNat)=_ from sr _ 7,Sd ha (by omega)];rw[show IntKind.u64.wrap (((((r ^^^ (r*2 ^ 13%18446744073709551616)) ^^^ ((r ^^^ (r*2 ^ 13%18446744073709551616))/2 ^ 7):Nat)):Int)*2 ^ (17:Int).toNat)=_ from sl _ 17,Sd hb (by omega)];rfl
theorem Qh:Go.Sort.SWO ltI where
 irrefl x:=by simp[ltI]
 trans x y z h1 h2:=by simp only[ltI,decide_eq_true_eq]at *;omega
 ntrans x y z h1 h2:=by simp only[ltI,decide_eq_false_iff_not]at *;omega
theorem VY:∀ {l m:List Int},l.Perm m->l.Pairwise (fun x y=>ltI y x=false)->m.Pairwise (fun x y=>ltI y x=false)->l=m
 |[],m,h,_,_=>(List.nil_perm.1 h).symm
 |x::l,[],h,_,_=>by have:=h.length_eq;simp at this
 |x::l,y::m,h,h1,h2=>by
  have e:x=y:=by
   rw[pairwise_cons]at h1 h2;have m1:x∈y::m:=h.mem_iff.1 mem_cons_self;have m2:y∈x::l:=h.mem_iff.2 mem_cons_self;rcases mem_cons.1 m1 with e |m1
   ·exact e
   ·rcases mem_cons.1 m2 with e |m2
    ·exact e.symm
    ·have a:=h1.1 y m2;have b:=h2.1 x m1;simp only[ltI,decide_eq_false_iff_not]at a b;omega
  subst e;rw[pairwise_cons]at h1 h2;rw[VY (List.Perm.cons_inv h) h1.2 h2.2]
theorem Fe {α:Type} (lt:α->α->Bool) (x:α):∀ ys:List α,(jH lt x ys).Perm (x::ys)
 |[]=>List.Perm.refl _
 |y::ys=>by
  simp only[jH];cases lt x y with
  |true=>exact ((Fe lt x ys).cons y).trans (List.Perm.swap x y ys)
  |false=>exact List.Perm.refl _
theorem Sr {α:Type} (lt:α->α->Bool) (l:List α):(iY lt l).Perm l:=by
 have gen:∀ (xs rs:List α),(xs.foldl (fun rs x=>jH lt x rs) rs).Perm (xs++rs):=by
  intro xs
  induction xs with
  |nil=>intro rs;exact List.Perm.refl _
  |cons x xs ih=>
   intro rs;refine (ih _).trans ?_;refine ((Fe lt x rs).append_left xs).trans ?_;exact List.perm_middle
 unfold iY;exact (List.reverse_perm _).trans (by simpa using gen l [])
theorem insRev_sorted {α:Type} {lt:α->α->Bool} (hS:Go.Sort.SWO lt) (x:α):∀ ys:List α,ys.Pairwise (fun a b=>lt a b=false)->(jH lt x ys).Pairwise fun a b=>lt a b=false
 |[],_=>by simp[jH]
 |y::ys,h=>by
  have h':=pairwise_cons.1 h;simp only[jH];cases hxy:lt x y with
  |true=>
   rw[cond_true,pairwise_cons];refine⟨fun z hz=>?_,insRev_sorted hS x ys h'.2⟩;rcases mem_cons.1 ((Fe lt x ys).mem_iff.1 hz)with rfl |hz
   ·cases hyx:lt y z with
    |false=>rfl
    |true=>have:=hS.trans _ _ _ hxy hyx;rw[hS.irrefl]at this;cases this
   ·exact h'.1 z hz
  |false=>
   rw[cond_false,pairwise_cons];refine⟨fun z hz=>?_,h⟩;rcases mem_cons.1 hz with rfl |hz
   ·exact hxy
   ·exact hS.ntrans _ _ _ hxy (h'.1 z hz)
theorem isort_sorted {α:Type} {lt:α->α->Bool} (hS:Go.Sort.SWO lt) (l:List α):(iY lt l).Pairwise fun x y=>lt y x=false:=by
 have gen:∀ (xs rs:List α),rs.Pairwise (fun a b=>lt a b=false)->(xs.foldl (fun rs x=>jH lt x rs) rs).Pairwise fun a b=>lt a b=false:=by
  intro xs
  induction xs with
  |nil=>intro rs h;exact h
  |cons x xs ih=>intro rs h;exact ih _ (insRev_sorted hS x rs h)
 unfold iY;rw[List.pairwise_reverse];exact gen l [] List.Pairwise.nil
theorem adT (l:List Int):xK ltI l=iY ltI l:=
 VY ((CJ Qh l).trans (Sr ltI l).symm) (CK Qh l) (isort_sorted Qh l)
theorem ZE (n:Nat):∀ m,dZ n m=fH cmp_Less_int (fun r=>r) aM aN n m
 | 0=>rfl
 |m+1=>by
  show jJ n (dZ n m)=iC cmp_Less_int (fun r=>r) aM aN n (fH cmp_Less_int (fun r=>r) aM aN n m);rw[ZE n m];generalize fH cmp_Less_int (fun r=>r) aM aN n m=rc
  kernel_rfl
theorem l5 {n:Nat} {l:List Int} (hl:l.length < 1099511627776) (hn:l.length < n):j4 n l=some (iY ltI l):=by
 unfold j4 lF;rw[mJ (by omega),zq (by omega),ZE];simp only[bind_some,aB,cond_true];rw[xL (lt:=ltI) Qh (f:=ltI) (q:=fun r=>r) O6 (fun _ _=>rfl) afp afq (by omega) hn hn,adT];rfl
theorem lJ {n:Nat} {l:List Int} (hl:l.length < 1099511627776) (hn:l.length < n):jK n l=some ((),dU l):=by
 rw[<- ZA];exact UD (eq:=fun x y=>x==y) (ne:=fun x y=>x != y) (fun x y=>by simp[bne]) hl hn
theorem rO {l:List aj} (h:l.length < 1099511627776):nY l=some l:=Ot (b:=32) (by omega) (by simp only[maxLen];omega)
theorem KH {n:Nat} {l:List (List aj)} (hf:l.flatten.length < 1099511627776) (hl:l.length < 1099511627776) (hn:l.length < n):xN n l=some l.flatten:=Xx (aj.mk 0 0 0 0) (b:=32) hf (by omega) hl hn
theorem mZ {n:Nat} {a b:List aj} (hl:a.length < 1099511627776) (hn:a.length < n):gY n a b=some (decide (a=b)):=by
 have e:gY n a b=Ke n (fun x1 x2:aj=>!((x1.x0==(x2.x0:Int))&&((x1.y0==(x2.y0:Int))&&((x1.x1==(x2.x1:Int))&&((x1.y1==(x2.y1:Int))&&true))))) a b:=by kernel_rfl
 rw[e];refine EO (fun x y=>?_) hl hn;obtain⟨a,b,c,d⟩:=x;obtain⟨e,f,g,h⟩:=y;simp only[aj.mk.injEq,Bool.and_true];rw[Bool.eq_iff_iff];simp
theorem Bu {n:Nat} {a b:List aC} (hl:a.length < 1099511627776) (hn:a.length < n):sP n a b=some (decide (a=b)):=by
 have e:sP n a b=Ke n (fun x1 x2:aC=>!((x1.from_==(x2.from_:Int))&&((x1.to==(x2.to:Int))&&true))) a b:=by kernel_rfl
 rw[e];refine EO (fun x y=>?_) hl hn;obtain⟨a,b⟩:=x;obtain⟨c,d⟩:=y;simp only[aC.mk.injEq,Bool.and_true];rw[Bool.eq_iff_iff];simp
abbrev ltS (a b:aC):Bool:=decide (a.from_ < b.from_)
theorem KI:Go.Sort.SWO ltS where
 irrefl x:=by simp[ltS]
 trans x y z h1 h2:=by simp only[ltS,decide_eq_true_eq]at *;omega
 ntrans x y z h1 h2:=by simp only[ltS,decide_eq_false_iff_not]at *;omega
instance:Inhabited aC:=⟨⟨0,0⟩⟩
theorem adU (n:Nat) (rc:List aC->Int->Int->Int->((aC×aC×Unit)->Option Int)->Option (List aC)) (φ:(aC×aC×Unit)->Option Int) (l:List aC) (a b d:Int):fK n rc l a b d φ=iC (fun x y=>φ (x,y,())) (fun r=>decide (r < 0)) aM aN n (fun l a b d=>rc l a b d φ) l a b d:=by kernel_rfl
theorem VZ (n:Nat) (φ:(aC×aC×Unit)->Option Int):∀ m l a b d,cu n m l a b d φ=fH (fun x y=>φ (x,y,())) (fun r=>decide (r < 0)) aM aN n m l a b d
 | 0,l,a,b,d=>rfl
 |m+1,l,a,b,d=>by
  have e:(fun l a b d=>cu n m l a b d φ)=fH (fun x y=>φ (x,y,())) (fun r=>decide (r < 0)) aM aN n m:=by
   funext l a b d;exact VZ n φ m l a b d
  show fK n (cu n m) l a b d φ=iC (fun x y=>φ (x,y,())) (fun r=>decide (r < 0)) aM aN n (fH (fun x y=>φ (x,y,())) (fun r=>decide (r < 0)) aM aN n m) l a b d;rw[<- e];exact adU n (cu n m) φ l a b d
theorem GJ {n:Nat} {l:List aC} {φ:(aC×aC×Unit)->Option Int} (f:aC->aC->Int) (hφ:∀ x y,φ (x,y,())=some (f x y)) (hf:∀ x y,decide (f x y < 0)=ltS x y) (hl:l.length < 1099511627776) (hn:l.length < n):mK n l φ=some (xK ltS l):=by
 unfold mK kE;rw[mJ (by omega),zq (by omega)];simp only[bind_some,aB,cond_true,VZ];rw[xL (lt:=ltS) KI (f:=f) (q:=fun r=>decide (r < 0)) hφ hf afp afq (by omega) hn hn];rfl
def mrg (out:List aC) (s:aC):List aC:=
 match out.getLast? with
 |some q=>bif decide (s.from_<=q.to)then out.dropLast++[⟨q.from_,max q.to s.to⟩]else out++[s]
 |none=>[s]
theorem Sv (out:List aC) (s:aC):(mrg out s).length<=out.length+1:=by
 unfold mrg;cases out.getLast? with
 |none=>simp
 |some q=>simp only;cases decide (s.from_<=q.to)<;>simp<;>omega
theorem abM (o:List aC) (q s:aC):mrg (o++[q]) s=bif decide (s.from_<=q.to)then o++[⟨q.from_,max q.to s.to⟩]else o++[q]++[s]:=by simp[mrg]
abbrev OkS (s:aC):Prop:=s.from_ < s.to
def inS (l:List aC) (y:Int):Bool:=l.any fun s=>decide (s.from_<=y)&&decide (y < s.to)
def Can (l:List aC):Prop:=l.Pairwise (fun a b=>a.to < b.from_)∧∀ s∈l,OkS s
theorem tu (l:List aC) (y:Int):inS l y=true↔∃ s∈l,s.from_<=y∧y < s.to:=by simp[inS]
theorem l6 (l m:List aC) (y:Int):inS (l++m) y=(inS l y || inS m y):=by simp[inS]
theorem wH (y:Int):inS [] y=false:=rfl
theorem jU (s:aC) (l:List aC) (y:Int):inS (s::l) y=((decide (s.from_<=y)&&decide (y < s.to)) || inS l y):=by simp[inS]
theorem Sw {l m:List aC} (h:l.Perm m) (y:Int):inS l y=inS m y:=by
 rw[Bool.eq_iff_iff,tu,tu];exact⟨fun ⟨s,hs,h1⟩=>⟨s,h.mem_iff.1 hs,h1⟩,fun⟨s,hs,h1⟩=>⟨s,h.mem_iff.2 hs,h1⟩⟩
theorem zu:Can []:=⟨List.Pairwise.nil,by simp⟩
theorem afr {out:List aC} {s:aC} (hc:Can out) (hs:OkS s) (hb:∀ o∈out,o.from_<=s.from_):
 Can (mrg out s)∧(∀ o∈mrg out s,o.from_<=s.from_)∧∀ y,inS (mrg out s) y=(inS out y || inS [s] y):=by
 rcases List.eq_nil_or_concat out with rfl |⟨o,q,rfl⟩
 ·refine⟨⟨by simp[mrg],by simp[mrg];exact hs⟩,by simp[mrg],fun y=>by simp[mrg,inS]⟩
 ·rw[List.concat_eq_append]at*;obtain⟨h1,h2⟩:=hc;rw[pairwise_append]at h1;obtain⟨p1,_,p3⟩:=h1;have hq:OkS q:=h2 q (by simp);have hqs:q.from_<=s.from_:=hb q (by simp);rw[abM];by_cases hj:s.from_<=q.to
  ·simp only[hj,decide_true,cond_true];refine⟨⟨?_,?_⟩,?_,?_⟩
   ·rw[pairwise_append];refine⟨p1,by simp,fun a ha b hb'=>?_⟩;rw[mem_singleton]at hb';subst hb';exact p3 a ha q (by simp)
   ·intro a ha;rcases mem_append.1 ha with ha |ha
    ·exact h2 a (by simp[ha])
    ·rw[mem_singleton]at ha;subst ha;show q.from_ < max q.to s.to;have:q.from_ < q.to:=hq;omega
   ·intro a ha;rcases mem_append.1 ha with ha |ha
    ·exact hb a (by simp[ha])
    ·rw[mem_singleton]at ha;subst ha;exact hqs
   ·intro y;rw[l6,l6,Bool.or_assoc];congr 1;simp only[jU,wH,Bool.or_false];rw[Bool.eq_iff_iff];simp only[and_eq_true,Bool.or_eq_true,decide_eq_true_eq];have:q.from_ < q.to:=hq;have:s.from_ < s.to:=hs;omega
  ·simp only[hj,decide_false,cond_false];refine⟨⟨?_,?_⟩,?_,?_⟩
   ·rw[pairwise_append];refine⟨?_,by simp,fun a ha b hb'=>?_⟩
    ·rw[pairwise_append];exact⟨p1,by simp,p3⟩
    ·rw[mem_singleton]at hb';subst hb';rcases mem_append.1 ha with ha |ha
     ·have:=p3 a ha q (by simp);have:q.from_ < q.to:=hq;omega
     ·rw[mem_singleton]at ha;subst ha;omega
   ·intro a ha;rcases mem_append.1 ha with ha |ha
    ·exact h2 a ha
    ·rw[mem_singleton]at ha;subst ha;exact hs
   ·intro a ha;rcases mem_append.1 ha with ha |ha
    ·exact hb a ha
    ·rw[mem_singleton]at ha;subst ha;exact Int.le_refl _
   ·intro y;rw[l6]
theorem MB:∀ (l out:List aC),Can out->(∀ s∈l,OkS s)->l.Pairwise (fun x y=>x.from_<=y.from_)->(∀ o∈out,∀ s∈l,o.from_<=s.from_)->Can (l.foldl mrg out)∧∀ y,inS (l.foldl mrg out) y=(inS out y || inS l y)
 |[],out,hc,_,_,_=>⟨hc,fun y=>by simp[wH]⟩
 |s::l,out,hc,hv,hp,hb=>by
  rw[pairwise_cons]at hp;obtain⟨m1,m2,m3⟩:=afr hc (hv s (by simp)) (fun o ho=>hb o ho s (by simp));obtain⟨f1,f2⟩:=MB l (mrg out s) m1 (fun t ht=>hv t (by simp[ht])) hp.2 (fun o ho t ht=>Int.le_trans (m2 o ho) (hp.1 t ht));refine⟨f1,fun y=>?_⟩;rw[foldl_cons,f2,m3,Bool.or_assoc,<- l6];rfl
theorem ZF {a:aC} {l:List aC} (h:Can (a::l)):Can l:=⟨(pairwise_cons.1 h.1).2,fun s hs=>h.2 s (by simp[hs])⟩
theorem Gy {a:aC} {l:List aC} (h:Can (a::l)) {y:Int} (hy:inS l y=true):a.to < y:=by
 obtain⟨s,hs,h1,_⟩:=(tu _ _).1 hy;have:=(pairwise_cons.1 h.1).1 s hs;omega
theorem V3 {a:aC} {l:List aC} (h:Can (a::l)) {y:Int} (hy:inS (a::l) y=true):a.from_<=y:=by
 rw[jU,Bool.or_eq_true]at hy;rcases hy with hy |hy
 ·simp only[and_eq_true,decide_eq_true_eq]at hy;exact hy.1
 ·have:=Gy h hy;have:a.from_ < a.to:=h.2 a (by simp);omega
theorem l7:∀ {l m:List aC},Can l->Can m->(∀ y,inS l y=inS m y)->l=m
 |[],[],_,_,_=>rfl
 |[],b::m,_,hm,h=>by
  have:=h b.from_;have hb:b.from_ < b.to:=hm.2 b (by simp);rw[wH,jU]at this;simp[hb]at this
 |a::l,[],hl,_,h=>by
  have:=h a.from_;have ha:a.from_ < a.to:=hl.2 a (by simp);rw[wH,jU]at this;simp[ha]at this
 |a::l,b::m,hl,hm,h=>by
  have ha:a.from_ < a.to:=hl.2 a (by simp);have hb:b.from_ < b.to:=hm.2 b (by simp);have ina:inS (a::l) a.from_=true:=by rw[jU];simp[ha]
  have inb':inS (b::m) b.from_=true:=by rw[jU];simp[hb]
  have e1:a.from_=b.from_:=by
   have h1:=V3 hm (by rw[<- h];exact ina);have h2:=V3 hl (by rw[h];exact inb');omega
  have nl:∀ (c:aC) (k:List aC),Can (c::k)->inS (c::k) c.to=false:=by
   intro c k hk;cases hc:inS (c::k) c.to with
   |false=>rfl
   |true=>
    rw[jU,Bool.or_eq_true]at hc;rcases hc with hc |hc
    ·simp at hc
    ·have:=Gy hk hc;omega
  have e2:a.to=b.to:=by
   rcases Int.lt_trichotomy a.to b.to with hlt |he |hlt
   ·have h1:=nl a l hl;rw[h,jU]at h1;simp only[Bool.or_eq_false_iff,Bool.and_eq_false_iff,decide_eq_false_iff_not]at h1;omega
   ·exact he
   ·have h1:=nl b m hm;rw[<- h,jU]at h1;simp only[Bool.or_eq_false_iff,Bool.and_eq_false_iff,decide_eq_false_iff_not]at h1;omega
  have e:a=b:=by cases a;cases b;simp only at e1 e2;rw[e1,e2]
  subst e;rw[l7 (ZF hl) (ZF hm) fun y=>?_];have hy:=h y;rw[jU,jU]at hy;cases h1:inS l y with
  |true=>
   have:=Gy hl h1;have z:(decide (a.from_<=y)&&decide (y < a.to))=false:=(by rw[Bool.and_eq_false_iff,decide_eq_false_iff_not,decide_eq_false_iff_not];omega);rw[z,h1,Bool.false_or,Bool.false_or]at hy;rw[<- hy]
  |false=>
   cases h2:inS m y with
   |false=>rfl
   |true=>
    have:=Gy hm h2;have z:(decide (a.from_<=y)&&decide (y < a.to))=false:=(by rw[Bool.and_eq_false_iff,decide_eq_false_iff_not,decide_eq_false_iff_not];omega);rw[z,h1,h2]at hy;simp at hy
def ZG (l:List aC):List aC:=(iY ltS l).foldl mrg []
theorem afs {l:List aC} (h:l.Pairwise fun x y=>ltS y x=false):l.Pairwise fun x y=>x.from_<=y.from_:=
 h.imp fun {x y} hxy=>by simp only[ltS,decide_eq_false_iff_not]at hxy;omega
theorem MC {l:List aC} (h:∀ s∈l,OkS s):Can (ZG l)∧∀ y,inS (ZG l) y=inS l y:=by
 have hp:=Sr ltS l;obtain⟨h1,h2⟩:=MB (iY ltS l) [] zu (fun s hs=>h s (hp.mem_iff.1 hs)) (afs (isort_sorted KI l)) (by simp);exact⟨h1,fun y=>by rw[ZG,h2,wH,Bool.false_or,Sw hp]⟩
theorem adV {l:List aC} (h:∀ s∈l,OkS s):(xK ltS l).foldl mrg []=ZG l:=by
 have hp:=CJ KI l;obtain⟨h1,h2⟩:=MB (xK ltS l) [] zu (fun s hs=>h s (hp.mem_iff.1 hs)) (afs (CK KI l)) (by simp);obtain⟨h3,h4⟩:=MC h;exact l7 h1 h3 fun y=>by rw[h2,wH,Bool.false_or,Sw hp,h4]
theorem ZH (l:List aC):(ZG l).length<=l.length:=by
 have:∀ (ys out:List aC),(ys.foldl mrg out).length<=out.length+ys.length:=by
  intro ys
  induction ys with
  |nil=>intro out;simp
  |cons y ys ih=>
   intro out;simp only[foldl_cons,length_cons];have:=ih (mrg out y);have:=Sv out y;omega
 have h:=this (iY ltS l) [];rw[bL]at h;simpa[ZG]using h
abbrev OkR (r:aj):Bool:=decide (0<=r.x0)&&(decide (r.x0 < r.x1)&&(decide (r.x1<=1048576)&&(decide (0<=r.y0)&&(decide (r.y0 < r.y1)&&decide (r.y1<=1048576)))))
theorem IY (a b:Bool):(bif a then some b else some false)=some (a&&b):=by cases a<;>rfl
theorem o9 (r:aj):vV r=some (OkR r):=by simp only[vV,IY]
def bK (l:List aj) (x:Int):List aC:=(l.filter fun r=>decide (r.x0<=x)&&decide (x < r.x1)).map fun r=>⟨r.y0,r.y1⟩
def bJ (l:List aj) (x:Int):List aC:=ZG (bK l x)
theorem xU (l:List aj) (x:Int):(bK l x).length<=l.length:=by simp only[bK,length_map];exact length_filter_le _ _
theorem Ff (l:List aj) (x:Int):(bJ l x).length<=l.length:=
 Nat.le_trans (ZH _) (xU l x)
theorem ah8 {r:aj} (h:OkR r=true):r.y0 < r.y1:=by simp only[OkR,and_eq_true,decide_eq_true_eq]at h;omega
theorem IZ {l:List aj} (h:∀ r∈l,OkR r=true) (x:Int):∀ s∈bK l x,OkS s:=by
 intro s hs;simp only[bK,mem_map,mem_filter]at hs;obtain⟨r,⟨hr,_⟩,rfl⟩:=hs;exact ah8 (h r hr)
theorem ME {l:List aj} {x:Int} (hl:l.length < 1099511627776) {n:Nat} (hn:l.length < n):iter (qo l x) n ((0:Int),([]:List aC))=some (bK l x):=by
 have:=bF (l:=l) (step:=qo l x) (fun i (s:List aC)=>((i:Int),s)) (fun r s=>bif decide (r.x0<=x)&&decide (x < r.x1)then s++[⟨r.y0,r.y1⟩]else s) (fun s=>s) (fun i s=>s.length<=i)
  (fun i hi s hs=>?_) (fun s hs=>by simp[qo]) n hn [] (Nat.le_refl _)
 ·rw[show ((0:Nat):Int)=0 from rfl]at this;rw[this];congr 1;have gen:∀ (ys:List aj) (s:List aC),ys.foldl (fun s r=>bif decide (r.x0<=x)&&decide (x < r.x1)then s++[⟨r.y0,r.y1⟩]else s) s=s++bK ys x:=by
   intro ys
   induction ys with
   |nil=>intro s;simp[bK]
   |cons y ys ih=>
    intro s;simp only[foldl_cons,ih];cases h:(decide (y.x0<=x)&&decide (x < y.x1))with
    |true=>simp[bK,h]
    |false=>simp[bK,h]
  simpa using gen l []
 ·have hi':decide (((i:Nat):Int) < (l.length:Int))=true:=by simpa using hi
  have ap:bG s.length s.length (sub ([(aC.mk l[i].y0 l[i].y1)]:List aC) 0 1).length 1 16=true:=bE (n:=1) (by omega) (by simp only[maxLen];omega);simp only[qo,hi',cond_true,aZ hi,bind_some,IY];cases h:(decide (l[i].x0<=x)&&decide (x < l[i].x1))with
  |true=>
   simp only[cond_true,ap,dF,aB,bind_some];refine⟨?_,by simp;omega⟩;rw[ax (by omega)];rfl
  |false=>
   simp only[cond_false,aB,cond_true,bind_some];exact⟨by rw[ax (by omega)],by omega⟩
theorem MF {n:Nat} (w1 r2:List aC) (hw:w1.length=r2.length) (hl:r2.length < 1099511627776) (hn:r2.length < n):iter (qp w1 r2) n ((0:Int),([]:List aC))=some (r2.foldl mrg []):=by
 have:=bF (l:=r2) (step:=qp w1 r2) (fun i (s:List aC)=>((i:Int),s)) (fun r s=>mrg s r) (fun s=>s) (fun i s=>s.length<=i)
  (fun i hi s hs=>?_) (fun s hs=>by simp[qp,hw]) n hn [] (Nat.le_refl _)
 ·rw[show ((0:Nat):Int)=0 from rfl]at this;exact this
 ·refine⟨?_,by have:=Sv s r2[i];omega⟩;have hi':decide (((i:Nat):Int) < ((w1.length:Nat):Int))=true:=by simp;omega
  have ib:inb (i:Int) w1.length=true:=bD (by omega);have ap:bG s.length s.length (sub ([r2[i]]:List aC) 0 1).length 1 16=true:=bE (n:=1) (by omega) (by simp only[maxLen];omega);simp only[qp,hi',cond_true,ib,bV hi,bind_some];rcases List.eq_nil_or_concat s with rfl |⟨s0,q,hsq⟩
  ·have d0:decide (((([]:List aC).length:Nat):Int)>0)=false:=(by simp);simp only[d0,cond_false,bind_some,ap,cond_true,dF,aB];rw[ax (by omega)];rfl
  ·rw[List.concat_eq_append]at hsq;subst hsq;have d0:decide (((((s0++[q]).length:Nat):Int))>0)=true:=(by simp<;>omega);have lenq:(s0++[q]).length=s0.length+1:=(by simp);have wp:i64.wrap ((((s0++[q]).length:Nat):Int) - 1)=((s0.length:Nat):Int):=(by rw[iQ (by simp) (by omega),lenq];rfl);have ib2:inb ((s0.length:Nat):Int) (s0++[q]).length=true:=bD (by omega);have g:at? (s0++[q]) (((0:Nat):Int)+((s0.length:Nat):Int))=some q:=(by rw[qi];simp);have z:(((0:Nat):Int)+((s0.length:Nat):Int)).toNat=s0.length:=(by simp);have st:(s0++[q]).set s0.length (aC.mk q.from_ (max q.to r2[i].to))=s0++[⟨q.from_,max q.to r2[i].to⟩]:=(by simp);have m:mrg (s0++[q]) r2[i]=bif decide (r2[i].from_<=q.to)then s0++[⟨q.from_,max q.to r2[i].to⟩]else s0++[q]++[r2[i]]:=(by simp[mrg]);simp only[d0,cond_true,wp,ib2,g,bind_some,m,z,st];cases decide (r2[i].from_<=q.to)with
   |true=>
    have e:eqL (s0++[q]).length (s0++[(⟨q.from_,max q.to r2[i].to⟩:aC)]).length=true:=(by simp);simp only[cond_true,e,bind_some,aB];rw[ax (by omega)]
   |false=>
    simp only[cond_false,ap,cond_true,dF,aB,bind_some];rw[ax (by omega)];rfl
theorem XI {n:Nat} {l:List aj} {x:Int} (hv:∀ r∈l,OkR r=true) (hl:l.length < 1099511627776) (hn:l.length < n):Gs n l x=some (bJ l x):=by
 have h1:=xU l x;have h2:(xK ltS (bK l x)).length=(bK l x).length:=Kl KI _;unfold Gs;simp only[length_nil,aB,cond_true,ME (x:=x) (l:=l) (by omega) (n:=n) (by omega),bind_some];rw[GJ (fun a b=>if a.from_ < b.from_ then -1 else if b.from_ < a.from_ then 1 else 0) (fun a b=>by show vZ a b=_;unfold vZ;rw[iF];rfl) (fun a b=>by
  by_cases h1:a.from_ < b.from_
  ·simp[h1]
  ·by_cases h2:b.from_ < a.from_<;>simp[h1,h2]) (by omega) (by omega)]
 simp only[bind_some];rw[MF _ _ h2.symm (by omega) (by omega)];simp only[bind_some,bB,aB,cond_true];rw[adV (IZ hv x)];rfl
def aL (l:List aj):List Int:=adK (l.flatMap fun r=>[r.x0,r.x1])
def nO {α:Type} (f:Int->Int->α):List Int->List α
 |a::b::l=>f a b::nO f (b::l)
 |_=>[]
def aJ (l:List aj):List aI:=nO (fun a b=>⟨a,b,bJ l a⟩) (aL l)
theorem pq {α:Type} (f:Int->Int->α):∀ (l:List Int),(nO f l).length=l.length - 1∧∀ i (h:i+1 < l.length) (h':i < (nO f l).length),(nO f l)[i]=f l[i] l[i+1]
 |[]=>⟨rfl,fun i h=>by simp at h⟩
 |[a]=>⟨rfl,fun i h=>by simp at h⟩
 |a::b::l=>by
  obtain⟨h1,h2⟩:=pq f (b::l);refine⟨by simp only[nO,length_cons,h1];simp,fun i h h'=>?_⟩;cases i with
  |zero=>rfl
  |succ i=>
   simp only[nO,List.getElem_cons_succ];exact h2 i (by simpa using h) _
theorem jk (l:List aj):(l.flatMap fun r=>[r.x0,r.x1]).length=2*l.length:=by
 induction l with
 |nil=>rfl
 |cons x l ih=>simp only[List.flatMap_cons,length_append,ih,length_cons,length_nil];omega
theorem oM (l:List Int):(dU l).length<=l.length:=by
 match l with
 |[]=>simp[dU]
 |[x]=>simp[dU]
 |x::y::l=>
  have:=oM (y::l);simp only[dU];cases x==y<;>simp at* <;>omega
theorem zY (l:List aj):(aL l).length<=2*l.length:=by
 have h:=oM (iY (fun a b=>decide (a < b)) (l.flatMap fun r=>[r.x0,r.x1]));rw[bL,jk]at h;exact h
theorem MH {n:Nat} {l:List aj} (hl:l.length < 10995116277) (hn:l.length < n):iter (qw l) n ((0:Int),([]:List Int))=some (l.flatMap fun r=>[r.x0,r.x1]):=by
 have:=bF (l:=l) (step:=qw l) (fun i (s:List Int)=>((i:Int),s)) (fun r s=>s++[r.x0,r.x1]) (fun s=>s) (fun i s=>s.length<=2*i)
  (fun i hi s hs=>?_) (fun s hs=>by simp[qw]) n hn [] (Nat.le_refl _)
 ·rw[show ((0:Nat):Int)=0 from rfl]at this;rw[this];have gen:∀ (ys:List aj) (s:List Int),ys.foldl (fun s r=>s++[r.x0,r.x1]) s=s++ys.flatMap fun r=>[r.x0,r.x1]:=by
   intro ys
   induction ys with
   |nil=>intro s;simp
   |cons y ys ih=>intro s;simp[ih]
  congr 1;simpa using gen l []
 ·have hi':decide (((i:Nat):Int) < ((l.length:Nat):Int))=true:=by simpa using hi
  have ap:bG s.length s.length (sub ([l[i].x0,l[i].x1]:List Int) 0 2).length 2 8=true:=bE (n:=2) (by omega) (by simp only[maxLen];omega);simp only[qw,hi',cond_true,bD hi,bV hi,bind_some,ap,dF,aB];refine⟨?_,by simp;omega⟩;rw[ax (by omega)];rfl
theorem XJ {n:Nat} {ls:List (List aj)} (hv:∀ r∈ls.flatten,OkR r=true) (hl:ls.flatten.length < 10995116277) (hls:ls.length < 1099511627776) (hn:2*ls.flatten.length < n) (hn2:ls.length < n):Gt n ls=some (aJ ls.flatten):=by
 unfold Gt;rw[KH (by omega) hls hn2];generalize ls.flatten=l at*;have he:=zY l;simp only[bind_some,length_nil,aB,cond_true,MH (l:=l) (n:=n) (by omega) (by omega)];rw[l5 (by rw[jk];omega) (by rw[jk];omega)];simp only[bind_some,bL,aB,cond_true];rw[lJ (by rw[bL,jk];omega) (by rw[bL,jk];omega)];simp only[bind_some];have hE:dU (iY ltI (l.flatMap fun r=>[r.x0,r.x1]))=aL l:=rfl;rw[hE];obtain⟨p1,p2⟩:=pq (fun a b=>(⟨a,b,bJ l a⟩:aI)) (aL l);have key:iter (qx n l ((),aL l)) n ((1:Int),([]:List aI))=some (aJ l):=by
  have:=eO (step:=qx n l ((),aL l)) (fun i=>(((i+1:Nat):Int),(aJ l).take i)) (aJ l).length (aJ l) (fun i hi=>?_) ?_ n (by unfold aJ;omega)
  ·simpa using this
  ·have hi2:i+1 < (aL l).length:=(by unfold aJ at hi;omega);have d:decide (((i+1:Nat):Int) < (((aL l).length:Nat):Int))=true:=(by simp;omega);have wp:i64.wrap (((i+1:Nat):Int) - 1)=((i:Nat):Int):=(by rw[iQ (by omega) (by omega)];rfl);have ap:bG ((aJ l).take i).length ((aJ l).take i).length (sub ([(aI.mk ((aL l)[i]'(by omega)) (aL l)[i+1] (bJ l ((aL l)[i]'(by omega))))]:List aI) 0 1).length 1 40=true:=by
    refine bE (n:=1) ?_ ?_
    ·rw[length_take];unfold aJ;omega
    ·rw[length_take];unfold aJ;simp only[maxLen];omega
   have tk:(aJ l).take (i+1)=(aJ l).take i++[⟨(aL l)[i]'(by omega),(aL l)[i+1],bJ l ((aL l)[i]'(by omega))⟩]:=by
    rw[take_succ_eq_append_getElem hi];congr 2;exact p2 i hi2 hi
   simp only[qx,d,cond_true,wp,bD (show i < (aL l).length by omega),bV (show i < (aL l).length by omega),bind_some,bD hi2,bV hi2,bB,aB,XI (l:=l) (n:=n) hv (by omega) (by omega),ap,dF];rw[ax (by omega),tk];rfl
  ·have d:decide ((((aJ l).length+1:Nat):Int) < (((aL l).length:Nat):Int))=false:=(by unfold aJ;simp;omega);simp only[qx,d,cond_false,List.take_length,aB,cond_true]
 rw[key];simp only[bind_some,bB,aB,cond_true]
def ay (x0 x1:Int) (c:List aC):List aj:=c.map fun q=>⟨x0,q.from_,x1,q.to⟩
def yE (x0 x1:Int) (c:List aC):List aI->List aj
 |[]=>ay x0 x1 c
 |s::l=>if s.column=c then yE x0 s.x1 c l else ay x0 x1 c++yE s.x0 s.x1 s.column l
def aR:List aI->List aj
 |[]=>[]
 |s::l=>yE s.x0 s.x1 s.column l
theorem V4 (x0:Int) (c:List aC):∀ (l:List aI) (x1:Int) (k:Nat) (hk:k<=l.length),(∀ j (hj:j < k),(l[j]'(by omega)).column=c)->(∀ h:k < l.length,l[k].column≠c)->
 yE x0 x1 c l=ay x0 (if h:0 < k then (l[k - 1]'(by omega)).x1 else x1) c++aR (l.drop k)
 |l,x1,0,_,_,h2=>by
  cases l with
  |nil=>simp[yE,aR]
  |cons s l=>
   have:=h2 (by simp);simp only[List.getElem_cons_zero]at this;simp[yE,aR,this]
 |[],x1,k+1,hk,_,_=>by simp at hk
 |s::l,x1,k+1,hk,h1,h2=>by
  have e0:=h1 0 (by omega);simp only[List.getElem_cons_zero]at e0;simp only[yE,e0,if_true];rw[V4 x0 c l s.x1 k (by simpa using hk) (fun j hj=>by have:=h1 (j+1) (by omega);simpa using this) (fun h=>by have:=h2 (by simpa using h);simpa using this)];simp only[List.drop_succ_cons];congr 2;by_cases hk0:0 < k
  ·simp only[hk0,dite_true,Nat.zero_lt_succ,Nat.add_sub_cancel];obtain⟨m,rfl⟩:∃ m,k=m+1:=⟨k - 1,by omega⟩;simp
  ·have:k=0:=(by omega);subst this;simp
theorem H7 (l:List aI) (b:Nat) (h:∀ s∈l,s.column.length<=b):(aR l).length<=l.length*b:=by
 have go:∀ (l:List aI) (x0 x1:Int) (c:List aC),c.length<=b->(∀ s∈l,s.column.length<=b)->(yE x0 x1 c l).length<=(l.length+1)*b:=by
  intro l
  induction l with
  |nil=>intro x0 x1 c hc _;simp only[yE,ay,length_map,length_nil];omega
  |cons s l ih=>
   intro x0 x1 c hc hl;simp only[yE];split
   ·have:=ih x0 s.x1 c hc (fun t ht=>hl t (mem_cons_of_mem _ ht));simp only[length_cons,Nat.add_mul]at*;omega
   ·have:=ih s.x0 s.x1 s.column (hl s (by simp)) (fun t ht=>hl t (mem_cons_of_mem _ ht));simp only[length_append,ay,length_map,length_cons,Nat.add_mul]at*;omega
 cases l with
 |nil=>simp[aR]
 |cons s l=>
  simp only[aR];exact go l _ _ _ (h s (by simp)) (fun t ht=>h t (mem_cons_of_mem _ ht))
theorem O7 {n:Nat} {l:List aI} {i k:Nat} (hi:i < l.length) (hk1:0 < k) (hk:k<=l.length) (hl:l.length < 10995116277) (x3:aI) (out:List aj) (ho:out.length < 1099511627776) (hc:x3.column.length < 1099511627776) (hn:x3.column.length < n):
 iter (ul l (i:Int) (k:Int) x3) n ((0:Int),out)=some (out++ay l[i].x0 (l[k - 1]'(by omega)).x1 x3.column):=by
 have:=bF (l:=x3.column) (step:=ul l (i:Int) (k:Int) x3) (fun j (s:List aj)=>((j:Int),s)) (fun q s=>s++[⟨l[i].x0,q.from_,(l[k - 1]'(by omega)).x1,q.to⟩]) (fun s=>s) (fun j s=>s.length<=out.length+j)
  (fun j hj s hs=>?_) (fun s hs=>by simp[ul]) n hn out (Nat.le_refl _)
 ·rw[show ((0:Nat):Int)=0 from rfl]at this;rw[this];have gen:∀ (ys:List aC) (s:List aj),ys.foldl (fun s q=>s++[⟨l[i].x0,q.from_,(l[k - 1]'(by omega)).x1,q.to⟩]) s=s++ay l[i].x0 (l[k - 1]'(by omega)).x1 ys:=by
   intro ys
   induction ys with
   |nil=>intro s;simp[ay]
   |cons y ys ih=>intro s;simp only[foldl_cons,ih];simp[ay]
  rw[gen]
 ·have hj':decide (((j:Nat):Int) < (x3.column.length:Int))=true:=by simpa using hj
  have wp:i64.wrap ((k:Int) - 1)=((k - 1:Nat):Int):=iQ hk1 (by omega);have ap:bG s.length s.length (sub ([(aj.mk l[i].x0 (x3.column[j]).from_ (l[k - 1]'(by omega)).x1 (x3.column[j]).to)]:List aj) 0 1).length 1 32=true:=bE (n:=1) (by omega) (by simp only[maxLen];omega);simp only[ul,hj',cond_true,aZ hj,aZ hi,wp,aZ (show k - 1 < l.length by omega),bind_some,ap,dF,aB];refine⟨?_,by simp;omega⟩;rw[ax (by omega)];rfl
theorem ZI {n:Nat} {l:List aI} {b:Nat} (hb:b<=100000) (hl:l.length<=100000) (hc:∀ s∈l,s.column.length<=b) (hn:b < n) (hn2:l.length < n):KA n l=some (aR l):=by
 unfold KA;simp only[length_nil,aB,cond_true];have main:∀ (m i:Nat) (out:List aj) (k:Nat),i+m=l.length->m < k->out.length<=i*b->iter (um n l) k ((i:Int),out)=some (out++aR (l.drop i)):=by
  intro m
  induction m using Nat.strongRecOn with
  |ind m ih=>
   intro i out k him hk ho;obtain⟨k,rfl⟩:∃ j,k=j+1:=⟨k - 1,by omega⟩;by_cases hm:m=0
   ·subst hm;have:i=l.length:=(by omega);subst this;refine aY ?_;simp[um,aR]
   ·have hi:i < l.length:=(by omega);have di:decide (((i:Nat):Int) < (l.length:Int))=true:=(by simpa using hi);obtain⟨q,hq1,hq2,hq3,hq4⟩:∃ q,i < q∧q<=l.length∧(∀ j,i < j->j < q->∀ h:j < l.length,l[j].column=l[i].column)∧(∀ h:q < l.length,l[q].column≠l[i].column):=by
     rcases zT (fun j=>if h:j < l.length then decide (l[j].column≠l[i].column)else false) (i+1) l.length with ⟨q,h1,h2,h3,h4⟩ |h
     ·simp only[h2,dite_true,decide_eq_true_eq]at h3;refine⟨q,by omega,by omega,fun j hj1 hj2 hj=>?_,fun _=>h3⟩;have:=h4 j (by omega) hj2;simp only[hj,dite_true,decide_eq_false_iff_not,ne_eq,Decidable.not_not]at this;exact this
     ·refine⟨l.length,hi,Nat.le_refl _,fun j hj1 hj2 hj=>?_,fun h=>by omega⟩;have:=h j (by omega) hj;simp only[hj,dite_true,decide_eq_false_iff_not,ne_eq,Decidable.not_not]at this;exact this
    have cl:∀ j (hj:j < l.length),l[j].column.length<=b:=fun j hj=>hc _ (getElem_mem hj);have r2:iter (pR n l (i:Int)) n (i64.wrap ((i:Int)+1))=some (q:Int):=by
     rw[ax (by omega)];have:=eO (step:=pR n l (i:Int)) (fun j=>((i+1+j:Nat):Int)) (q - (i+1)) (q:Int) (fun j hj=>?_) ?_ n (by omega)
     ·simpa using this
     ·have hjl:i+1+j < l.length:=(by omega);have dj:decide (((i+1+j:Nat):Int) < (l.length:Int))=true:=(by simp;omega);have hcc:=cl (i+1+j) hjl;simp only[pR,dj,cond_true,aZ hjl,aZ hi,bind_some];rw[Bu (by omega) (by omega),hq3 (i+1+j) (by omega) (by omega) hjl];simp only[decide_true,bind_some,cond_true];rw[ax (by omega)];rfl
     ·rw[show i+1+(q - (i+1))=q by omega];by_cases hql:q < l.length
      ·have dj:decide (((q:Nat):Int) < (l.length:Int))=true:=(by simpa using hql);have hcc:=cl q hql;simp only[pR,dj,cond_true,aZ hql,aZ hi,bind_some];rw[Bu (by omega) (by omega)];simp[hq4 hql]
      ·have dj:decide (((q:Nat):Int) < (l.length:Int))=false:=(by simp;omega);simp only[pR,dj,cond_false,bind_some]
    have ob:i*b<=100000*100000:=Nat.mul_le_mul (by omega) hb;have hci:=cl i hi;have r3:=O7 (n:=n) hi (show 0 < q by omega) hq2 (by omega) l[i] out (by omega) (by omega) (by omega);have step:um n l ((i:Int),out)=some (.inl ((q:Int),out++ay l[i].x0 (l[q - 1]'(by omega)).x1 l[i].column)):=(by simp only[um,di,cond_true,r2,aZ hi,bind_some,aB,r3]);rw[bW step,ih (l.length - q) (by omega) q _ k (by omega) (by omega) (by
     rw[length_append,ay,length_map];have:(i+1)*b<=q*b:=Nat.mul_le_mul_right _ (by omega);rw[Nat.add_mul]at this;omega)]
    rw[append_assoc];congr 2
    conv=>rhs;rw[drop_eq_getElem_cons hi]
    simp only[aR];rw[V4 l[i].x0 l[i].column (l.drop (i+1)) l[i].x1 (q - (i+1)) (by rw[length_drop];omega) (fun j hj=>by
     rw[getElem_drop];exact hq3 _ (by omega) (by omega) (by omega)) (fun h=>by
     rw[length_drop]at h;rw[getElem_drop];have:=hq4 (by omega);have hqq:i+1+(q - (i+1))=q:=(by omega);simp only[hqq];exact this)]
    rw[List.drop_drop,show i+1+(q - (i+1))=q by omega];congr 2;by_cases h0:0 < q - (i+1)
    ·simp only[h0,dite_true,getElem_drop];congr 2;omega
    ·simp only[h0,dite_false];have:q - 1=i:=(by omega);congr 2
 have:=main l.length 0 [] n (by omega) (by omega) (by simp);simp only[Int.natCast_zero,nil_append,List.drop_zero]at this;rw[this];simp
def ofL (l:List aj):List aj×Int:=
 if l.all OkR then (if l.length>400 then ([],6)else if (aR (aJ l)).length>200 then ([],6)else (aR (aJ l),0))else ([],1)
def rightL (l:List aj):Bool:=decide ((ofL l).2=0)&&decide ((ofL l).1=l)
theorem Ow {l:List aj} {s:aI} (h:s∈aJ l):s.column.length<=l.length:=by
 obtain⟨i,hi,rfl⟩:=List.getElem_of_mem h;obtain⟨p1,p2⟩:=pq (fun a b=>(⟨a,b,bJ l a⟩:aI)) (aL l);have:(aJ l)[i]=⟨(aL l)[i]'(by unfold aJ at hi;omega),(aL l)[i+1]'(by unfold aJ at hi;omega),bJ l ((aL l)[i]'(by unfold aJ at hi;omega))⟩:=p2 i (by unfold aJ at hi;omega) hi;rw[this];exact Ff l _
theorem Sy (l:List aj):(aJ l).length<=2*l.length:=by
 obtain⟨p1,_⟩:=pq (fun a b=>(⟨a,b,bJ l a⟩:aI)) (aL l);have:=zY l;unfold aJ;omega
theorem aft {n:Nat} {l:List aj} (hl:l.length < 1099511627776) (hl2:l.length < n) (hn:1000<=n):ac0 n l=some (ofL l):=by
 unfold ac0;have h1:=jG (l:=l) (step:=KC l) (fun i=>(i:Int)) (fun r=>!OkR r) () (fun _=>(([]:List aj),(1:Int))) (fun i hi=>?_) ?_ n (by omega)
 ·rw[show ((0:Nat):Int)=0 from rfl]at h1;rw[h1];have h2:=mH (fun r=>!OkR r) l;cases hf:kS (fun r=>!OkR r) l with
  |some i=>
   rw[hf]at h2;have:l.all OkR=false:=by
    rw[<- Bool.not_eq_true,all_eq_true];intro hall;have h3:=h2.symm;simp only[Option.isSome_some,any_eq_true]at h3;obtain⟨x,hx,hx2⟩:=h3;rw[hall x hx]at hx2;cases hx2
   simp[ofL,this]
  |none=>
   rw[hf]at h2;have:l.all OkR=true:=by
    rw[all_eq_true];intro x hx;cases h:OkR x with
    |true=>rfl
    |false=>
     have:l.any (fun r=>!OkR r)=true:=any_eq_true.2 ⟨x,hx,by rw[h];rfl⟩;rw[this]at h2;cases h2
   have hv:∀ r∈l,OkR r=true:=all_eq_true.1 this;by_cases h400:l.length>400
   ·have d4:decide ((l.length:Int)>400)=true:=(by simp;omega);simp only[gm,d4,cond_true,ofL,this,if_true,if_pos h400]
   have d4:decide ((l.length:Int)>400)=false:=(by simp;omega);have ls:=Sy l;simp only[gm,d4,cond_false];have fl:[l].flatten=l:=(by simp);rw[show (sub ([l]:List (List aj)) 0 1)=[l]from rfl,XJ (ls:=[l]) (by rw[fl];exact hv) (by rw[fl];omega) (by simp) (by rw[fl];omega) (by simp;omega),fl];simp only[length_singleton,aB,cond_true,bind_some,bB];rw[ZI (b:=400) (by omega) (by omega) (fun s hs=>Nat.le_trans (Ow hs) (by omega)) (by omega) (by omega)];simp only[bind_some,bB,aB,cond_true,IL,ofL,this,if_true,if_neg h400];by_cases h200:(aR (aJ l)).length>200
   ·have:decide (((aR (aJ l)).length:Int)>200)=true:=(by simp;omega);simp only[this,cond_true,bind_some,h200,if_true]
   ·have:decide (((aR (aJ l)).length:Int)>200)=false:=(by simp;omega);simp only[this,cond_false,bind_some,h200,if_false]
 ·have hi':decide (((i:Nat):Int) < (l.length:Int))=true:=by simpa using hi
  simp only[KC,hi',cond_true,aZ hi,bind_some,o9];cases OkR l[i]with
  |false=>rfl
  |true=>simp only[Bool.not_true,cond_false];rw[ax (by omega)]
 ·simp[KC]
theorem jl {n:Nat} {l:List aj} (hl:l.length < 1099511627776) (hl2:l.length < n) (hn:1000<=n):kT n l=some (rightL l):=by
 unfold kT rightL;rw[aft hl hl2 hn];simp only[bind_some];by_cases h:(ofL l).2=0
 ·have e:((ofL l).2==0)=true:=by simp[h]
  have lo:(ofL l).1.length<=200:=by
   unfold ofL;split
   ·split
    ·simp
    ·split
     ·simp
     ·simp;omega
   ·simp
  by_cases hlen:(ofL l).1.length < n
  ·simp only[e,cond_true,h,decide_true,Bool.true_and];rw[mZ (by omega) hlen];rfl
  ·have:(ofL l).1.length≠l.length:=(by omega);have hne:(ofL l).1≠l:=fun e=>this (by rw[e]);simp only[e,cond_true,h,decide_true,Bool.true_and];unfold gY;have hb:(((ofL l).1.length:Int) != (l.length:Int))=true:=(by simp;omega);rw[hb];simp[hne]
 ·have e:((ofL l).2==0)=false:=by simp[h]
  simp[e,h]
theorem l8 {α:Type} (c:Bool) (a b:α):(bif c then some a else some b)=some (bif c then a else b):=by cases c<;>rfl
theorem V5 (i n:Nat):Int.tmod (i:Int) (n:Int)=((i%n:Nat):Int):=by rw[Int.tmod_eq_emod_of_nonneg (by omega)];omega
theorem bq {i n:Nat} (h:i < n):decide ((i:Int) < ((n:Nat):Int))=true:=by simpa using h
theorem jV (n:Nat):decide ((n:Int) < ((n:Nat):Int))=false:=by simp
theorem agA {k b:Nat} (h:k*b<=140737488355328) (h2:k<=maxLen):O1 (k:Int) b=true:=by
 have e:((k:Int)).toNat=k:=by omega
 simp only[O1,and_eq_true,decide_eq_true_eq,e];exact⟨⟨by omega,h⟩,h2⟩
def ptA (p:List bM) (i:Nat):bM:=p.getD i ⟨0,0⟩
def fV (p:List bM) (i:Nat):gB:=⟨(ptA p i).x,(ptA p i).y,(ptA p ((i+1)%p.length)).x,(ptA p ((i+1)%p.length)).y⟩
def dQ (p:List bM):List gB:=(List.range p.length).map (fV p)
theorem Qi {p:List bM} {i:Nat} (h:i < p.length):ptA p i=p[i]:=by simp[ptA,h]
theorem bU (p:List bM):(dQ p).length=p.length:=by simp[dQ]
theorem xV {p:List bM} {i:Nat} (h:i < (dQ p).length):(dQ p)[i]=fV p i:=by simp[dQ]
theorem Sz {α:Type} (A B:List α) (z x:α):(A++z::B).set A.length x=A++x::B:=by rw[List.set_append_right _ _ (Nat.le_refl _),Nat.sub_self];rfl
theorem zw {n:Nat} {p:List bM} (hl:p.length<=100000) (hn:p.length < n):lX n p=some (dQ p):=by
 unfold lX;have mk:O1 ((p.length:Nat):Int) 32=true:=agA (by omega) (by show p.length<=2 ^ 63 - 1;omega);have main:=eO (step:=lG p) (fun i=>(((i:Nat):Int),(List.range i).map (fV p)++List.replicate (p.length - i) (gB.mk 0 0 0 0))) p.length (dQ p) (fun i hi=>?_) ?_ n hn
 ·have z:(((p.length:Nat):Int)).toNat=p.length:=by omega
  simp only[List.range_zero,List.map_nil,nil_append,Nat.sub_zero]at main;have d1:decide (((p.length:Nat):Int)<=((p.length:Nat):Int))=true:=by simp
  have d2:decide ((0:Int)<=((p.length:Nat):Int))=true:=by simp
  rw[mk,d1,d2,z];simp only[Bool.and_self,cond_true];rw[show ((0:Nat):Int)=0 from rfl]at main;rw[main];simp only[bind_some];have e:sub (dQ p) 0 p.length=dQ p:=by rw[<- bU p];exact bB _
  rw[e,bU];simp
 ·have nz:(((p.length:Nat):Int) != 0)=true:=by simp;intro h;rw[h]at hi;simp at hi
  have md:(i+1)%p.length < p.length:=Nat.mod_lt _ (by omega);have w:i64.wrap ((i:Int)+1)=((i+1:Nat):Int):=ax (by omega);have z:(((p.length:Nat):Int)).toNat=p.length:=by omega
  have rp:List.replicate (p.length - i) (gB.mk 0 0 0 0)=gB.mk 0 0 0 0::List.replicate (p.length - (i+1)) (gB.mk 0 0 0 0):=by rw[show p.length - i=(p.length - (i+1))+1 by omega,List.replicate_succ]
  have la:((List.range i).map (fV p)).length=i:=by simp
  have g:at? ((List.range i).map (fV p)++List.replicate (p.length - i) (gB.mk 0 0 0 0)) (((0:Nat):Int)+((i:Nat):Int))=some (gB.mk 0 0 0 0):=by rw[qi,List.getElem?_append_right (by omega),la,rp,Nat.sub_self];rfl
  have z2:(((0:Nat):Int)+((i:Nat):Int)).toNat=i:=by omega
  have st:((List.range i).map (fV p)++List.replicate (p.length - i) (gB.mk 0 0 0 0)).set i (fV p i)=(List.range (i+1)).map (fV p)++List.replicate (p.length - (i+1)) (gB.mk 0 0 0 0):=by
   rw[rp];have:=Sz ((List.range i).map (fV p)) (List.replicate (p.length - (i+1)) (gB.mk 0 0 0 0)) (gB.mk 0 0 0 0) (fV p i);rw[la]at this;rw[this,List.range_succ,map_append,append_assoc];rfl
  simp only[lG,bq hi,cond_true,aZ hi,bind_some,nz,w,V5,aZ md,z,bD hi,g,z2];rw[<- Qi hi,<- Qi md];rw[show gB.mk (ptA p i).x (ptA p i).y (ptA p ((i+1)%p.length)).x (ptA p ((i+1)%p.length)).y=fV p i from rfl,st]
 ·simp only[lG,jV,cond_false,Nat.sub_self,List.replicate_zero,append_nil];rfl
def Qj (a:bM):Bool:=decide (0<=a.x)&&(decide (a.x<=1048576)&&(decide (0<=a.y)&&decide (a.y<=1048576)))
def upP (s:gB):Bool:=s.a_x==s.b_x
def XK (s t:gB):Bool:=decide (max (min s.a_x s.b_x) (min t.a_x t.b_x)<=min (max s.a_x s.b_x) (max t.a_x t.b_x))&&decide (max (min s.a_y s.b_y) (min t.a_y t.b_y)<=min (max s.a_y s.b_y) (max t.a_y t.b_y))
def Qk (a b:bM):Bool:=decide (a.x < b.x) || (a.x==b.x&&decide (a.y < b.y))
theorem KJ (a:bM):qy a=some (Qj a):=by simp only[qy,IY,Qj]
theorem Bv (s t:gB):jb s t=some (XK s t):=by simp only[jb,IY,XK]
theorem jW (s:gB):d9 s=some (upP s):=rfl
theorem SA {n:Nat} (a b:Int) (hn:3<=n):oW n [a,b]=some (if a=0 then b else a):=by
 obtain⟨m,rfl⟩:∃ m,n=m+3:=⟨n - 3,by omega⟩;have w1:i64.wrap ((0:Int)+1)=1:=by decide
 have w2:i64.wrap ((1:Int)+1)=2:=by decide
 by_cases ha:a=0
 ·by_cases hb:b=0
  ·subst ha;subst hb;simp only[oW,Bg,sQ,w1,w2];rfl
  ·have hb':(b != 0)=true:=(by simpa using hb);subst ha;simp only[oW,Bg,sQ,w1];simp[at?,hb',dw]
 ·have ha':(a != 0)=true:=by simpa using ha
  simp only[oW,Bg,sQ];simp[at?,ha',dw,ha]
theorem I4 {n:Nat} (a b:bM) (hn:3<=n):∃ r,oG n a b=some r∧decide (r>=0)=!Qk a b:=by
 unfold oG;rw[iF,iF];simp only[bind_some];rw[show ∀ u v:Int,sub [u,v] 0 2=[u,v]from fun _ _=>rfl,SA _ _ hn];refine⟨_,rfl,?_⟩;unfold Qk;by_cases h1:a.x < b.x
 ·simp[h1]
 ·by_cases h2:b.x < a.x
  ·have h3:¬ a.x=b.x:=(by omega);simp[h1,h2,h3]
  ·have h3:a.x=b.x:=(by omega);by_cases h4:a.y < b.y
   ·simp[h3,h4]
   ·by_cases h5:b.y < a.y<;>simp[h3,h4,h5]
def afu (p:List bM) (i:Nat):Bool:=
 (!Qj (ptA p i) || ((((fV p i).a_x==(fV p i).b_x)==((fV p i).a_y==(fV p i).b_y)) || (upP (fV p i)==upP (fV p ((i+1)%p.length))))) || (decide (0 < i)&&!Qk (ptA p 0) (ptA p i))
def O8 (p:List bM) (i k:Nat):Bool:=decide (i+p.length - k>1)&&XK (fV p i) (fV p k)
def MI (p:List bM):Bool:=
 decide (4<=p.length)&&(decide (p.length<=60)&&(!((List.range p.length).any (afu p))&&(!((List.range p.length).any fun i=>(List.range p.length).any fun k=>decide (i+2<=k)&&O8 p i k)&&!upP (fV p 0))))
def bf (l:List aj) (x y:Int):Bool:=l.any fun r=>(decide (r.x0<=x)&&decide (x < r.x1))&&(decide (r.y0<=y)&&decide (y < r.y1))
theorem Fg (l:List aj) (x y:Int):inS (bK l x) y=bf l x y:=by
 induction l with
 |nil=>rfl
 |cons r l ih=>
  unfold bK bf at*;rw[List.filter_cons,List.any_cons,<- ih];cases h:(decide (r.x0<=x)&&decide (x < r.x1))with
  |true=>simp only[if_true,map_cons,Bool.true_and];rw[jU]
  |false=>simp
theorem dX {l:List aj} (h:∀ r∈l,OkR r=true) (x:Int):Can (bJ l x)∧∀ y,inS (bJ l x) y=bf l x y:=by
 obtain⟨h1,h2⟩:=MC (IZ h x);exact⟨h1,fun y=>by rw[bJ,h2,Fg]⟩
def pu:List aI->Prop
 |[]=>True
 |[s]=>s.x0 < s.x1
 |s::t::l=>s.x0 < s.x1∧s.x1=t.x0∧pu (t::l)
def eF:List aI->Int->List aC
 |[],_=>[]
 |s::l,x=>bif decide (s.x0<=x)&&decide (x < s.x1)then s.column else eF l x
theorem iG (s:aI) (l:List aI) (x:Int):eF (s::l) x=bif decide (s.x0<=x)&&decide (x < s.x1)then s.column else eF l x:=rfl
def Runs:List aI->Prop
 |[]=>True
 |[s]=>s.x0 < s.x1∧s.column≠[]
 |s::t::l=>(s.x0 < s.x1∧s.column≠[])∧s.x1<=t.x0∧(s.x1=t.x0->s.column≠t.column)∧Runs (t::l)
theorem eZ {s:aI} {l:List aI} (h:Runs (s::l)):Runs l:=by
 cases l with
 |nil=>trivial
 |cons t l=>exact h.2.2.2
theorem gH {s:aI} {l:List aI} (h:Runs (s::l)):s.x0 < s.x1∧s.column≠[]:=by
 cases l with
 |nil=>exact h
 |cons t l=>exact h.1
theorem jm:∀ {l:List aI} {b x:Int},Runs l->(∀ s∈l.head?,b<=s.x0)->x < b->eF l x=[]
 |[],_,_,_,_,_=>rfl
 |s::l,b,x,h,hb,hx=>by
  have h0:=hb s rfl;have hs:=gH h;have c:(decide (s.x0<=x)&&decide (x < s.x1))=false:=by rw[Bool.and_eq_false_iff,decide_eq_false_iff_not];left;omega
  rw[iG,c,cond_false];refine jm (eZ h) (b:=s.x1) (fun t ht=>?_) (by omega);cases l with
  |nil=>cases ht
  |cons u l=>
   have:t=u:=(by simpa using ht.symm);subst this;exact h.2.1
theorem tC {s:aI} {l:List aI} {x:Int} (h1:s.x0<=x) (h2:x < s.x1):eF (s::l) x=s.column:=by rw[iG,show (decide (s.x0<=x)&&decide (x < s.x1))=true by simp[h1,h2]];rfl
theorem uE {s:aI} {l:List aI} {x:Int} (h:s.x1<=x):eF (s::l) x=eF l x:=by rw[iG,show (decide (s.x0<=x)&&decide (x < s.x1))=false by rw[Bool.and_eq_false_iff,decide_eq_false_iff_not,decide_eq_false_iff_not];right;omega];rfl
theorem ZJ {s:aI} {l:List aI} (h:Runs (s::l)):eF l s.x1≠s.column:=by
 have hs:=gH h;cases l with
 |nil=>exact fun e=>hs.2 e.symm
 |cons t l=>
  obtain⟨_,h2,h3,h4⟩:=h;have ht:=gH h4;by_cases e:s.x1=t.x0
  ·rw[tC (by omega) (by omega)];exact fun e'=>h3 e e'.symm
  ·rw[jm h4 (b:=t.x0) (fun u hu=>by have:u=t:=by simpa using hu.symm
                                    subst this;exact Int.le_refl _) (by omega)]
   exact fun e'=>hs.2 e'.symm
theorem Ox:∀ {l m:List aI},Runs l->Runs m->(∀ x,eF l x=eF m x)->l=m
 |[],[],_,_,_=>rfl
 |[],b::m,_,hm,h=>by
  have hb:=gH hm;have:=h b.x0;rw[tC (Int.le_refl _) hb.1]at this;exact absurd this.symm hb.2
 |a::l,[],hl,_,h=>by
  have ha:=gH hl;have:=h a.x0;rw[tC (Int.le_refl _) ha.1]at this;exact absurd this ha.2
 |a::l,b::m,hl,hm,h=>by
  have ha:=gH hl;have hb:=gH hm;have e0:a.x0=b.x0:=by
   rcases Int.lt_trichotomy a.x0 b.x0 with hlt |he |hlt
   ·have:=h a.x0
    rw[tC (Int.le_refl _) ha.1,jm hm (b:=b.x0) (fun u hu=>by have:u=b:=by simpa using hu.symm
                                                             subst this;exact Int.le_refl _) hlt]at this
    exact absurd this ha.2
   ·exact he
   ·have:=h b.x0
    rw[tC (Int.le_refl _) hb.1,jm hl (b:=a.x0) (fun u hu=>by have:u=a:=by simpa using hu.symm
                                                             subst this;exact Int.le_refl _) hlt]at this
    exact absurd this.symm hb.2
  have ec:a.column=b.column:=by
   have:=h a.x0
   rwa [tC (Int.le_refl _) ha.1,tC (by omega) (by omega)]at this
  have e1:a.x1=b.x1:=by
   rcases Int.lt_trichotomy a.x1 b.x1 with hlt |he |hlt
   ·have:=h a.x1;rw[uE (Int.le_refl _),tC (by omega) hlt]at this;exact absurd (this.trans ec.symm) (ZJ hl)
   ·exact he
   ·have:=h b.x1;rw[uE (s:=b) (Int.le_refl _),tC (by omega) hlt]at this;exact absurd (this.symm.trans ec) (ZJ hm)
  have e:a=b:=by cases a;cases b;simp only at e0 e1 ec;rw[e0,e1,ec]
  subst e;rw[Ox (eZ hl) (eZ hm) fun x=>?_];by_cases hx:x < a.x1
  ·have bl:=jm (eZ hl) (b:=a.x1) (x:=x) (fun t ht=>by
    cases l with
    |nil=>cases ht
    |cons u l=>
     have:t=u:=(by simpa using ht.symm);subst this;exact hl.2.1) hx
   have bm:=jm (eZ hm) (b:=a.x1) (x:=x) (fun t ht=>by
    cases m with
    |nil=>cases ht
    |cons u m=>
     have:t=u:=(by simpa using ht.symm);subst this;exact hm.2.1) hx
   rw[bl,bm]
  ·have:=h x
   rwa [uE (by omega),uE (by omega)]at this
def Fh (x0 x1:Int) (c:List aC):List aI:=if c=[]then []else [⟨x0,x1,c⟩]
def DW (x0 x1:Int) (c:List aC):List aI->List aI
 |[]=>Fh x0 x1 c
 |s::l=>if s.column=c then DW x0 s.x1 c l else Fh x0 x1 c++DW s.x0 s.x1 s.column l
def Bw:List aI->List aI
 |[]=>[]
 |s::l=>DW s.x0 s.x1 s.column l
def fO (l:List aI):List aj:=l.flatMap fun s=>ay s.x0 s.x1 s.column
theorem Oy (x0 x1:Int) (c:List aC):fO (Fh x0 x1 c)=ay x0 x1 c:=by
 unfold Fh;split
 ·rename_i h;subst h;rfl
 ·simp[fO]
theorem MJ:∀ (l:List aI) (x0 x1:Int) (c:List aC),yE x0 x1 c l=fO (DW x0 x1 c l)
 |[],x0,x1,c=>(Oy x0 x1 c).symm
 |s::l,x0,x1,c=>by
  simp only[yE,DW];split
  ·exact MJ l _ _ _
  ·rw[MJ l];unfold fO;rw[List.flatMap_append];congr 1;exact (Oy x0 x1 c).symm
theorem uF (l:List aI):aR l=fO (Bw l):=by
 cases l with
 |nil=>rfl
 |cons s l=>exact MJ l _ _ _
theorem I5 (x0:Int):∀ (l:List aI) (x1:Int) (c:List aC),x0 < x1->(∀ s∈l.head?,x1=s.x0)->pu l->∀ t∈(DW x0 x1 c l).head?,x0<=t.x0∧(t.x0=x0->t.column=c)
 |[],x1,c,_,_,_,t,ht=>by
  simp only[DW,Fh]at ht;split at ht
  ·cases ht
  ·have:t=⟨x0,x1,c⟩:=(by simpa using ht.symm);subst this;exact⟨Int.le_refl _,fun _=>rfl⟩
 |s::l,x1,c,hx,hc,hS,t,ht=>by
  have e:=hc s rfl;have hs:s.x0 < s.x1∧(∀ u∈l.head?,s.x1=u.x0)∧pu l:=by
   cases l with
   |nil=>exact⟨hS,fun u hu=>(by cases hu),trivial⟩
   |cons v l=>exact⟨hS.1,fun u hu=>by have:u=v:=by simpa using hu.symm
                                      subst this;exact hS.2.1,hS.2.2⟩
  simp only[DW]at ht;split at ht
  ·exact I5 x0 l s.x1 c (by omega) hs.2.1 hs.2.2 t ht
  ·unfold Fh at ht;split at ht
   ·rw[nil_append]at ht;have:=I5 s.x0 l s.x1 s.column hs.1 hs.2.1 hs.2.2 t ht;exact⟨by omega,fun h=>by omega⟩
   ·have:t=⟨x0,x1,c⟩:=(by simpa using ht.symm);subst this;exact⟨Int.le_refl _,fun _=>rfl⟩
theorem adW {s:aI} {l:List aI} (h1:s.x0 < s.x1) (h2:s.column≠[]) (h3:∀ t∈l.head?,s.x1<=t.x0∧(s.x1=t.x0->s.column≠t.column)) (h4:Runs l):Runs (s::l):=by
 cases l with
 |nil=>exact⟨h1,h2⟩
 |cons t l=>
  have:=h3 t rfl;exact⟨⟨h1,h2⟩,this.1,this.2,h4⟩
theorem I6:∀ (l:List aI) (x0 x1:Int) (c:List aC),x0 < x1->(∀ s∈l.head?,x1=s.x0)->pu l->
 Runs (DW x0 x1 c l)∧∀ x,eF (DW x0 x1 c l) x=bif decide (x0<=x)&&decide (x < x1)then c else eF l x
 |[],x0,x1,c,hx,_,_=>by
  simp only[DW,Fh];split
  ·rename_i h;subst h;exact⟨trivial,fun x=>by simp[eF]⟩
  ·rename_i h;exact⟨⟨hx,h⟩,fun x=>rfl⟩
 |s::l,x0,x1,c,hx,hc,hS=>by
  have e:=hc s rfl;have hs:s.x0 < s.x1∧(∀ u∈l.head?,s.x1=u.x0)∧pu l:=by
   cases l with
   |nil=>exact⟨hS,fun u hu=>(by cases hu),trivial⟩
   |cons v l=>exact⟨hS.1,fun u hu=>by have:u=v:=by simpa using hu.symm
                                      subst this;exact hS.2.1,hS.2.2⟩
  simp only[DW];split
  ·rename_i hcol;obtain⟨r1,r2⟩:=I6 l x0 s.x1 c (by omega) hs.2.1 hs.2.2;refine⟨r1,fun x=>?_⟩;rw[r2,iG,hcol];by_cases h1:x0<=x<;>by_cases h2:x < x1<;>by_cases h3:s.x0<=x<;>by_cases h4:x < s.x1<;>simp[h1,h2,h3,h4]<;>omega
  ·rename_i hcol;obtain⟨r1,r2⟩:=I6 l s.x0 s.x1 s.column hs.1 hs.2.1 hs.2.2;have hd:=I5 s.x0 l s.x1 s.column hs.1 hs.2.1 hs.2.2;unfold Fh;split
   ·rename_i hn;subst hn;rw[nil_append];refine⟨r1,fun x=>?_⟩;rw[r2,iG];by_cases h1:x0<=x<;>by_cases h2:x < x1
    ·have h3:¬ s.x0<=x:=(by omega);simp only[h1,h2,h3,decide_true,decide_false,Bool.and_self,Bool.false_and,cond_true,cond_false];have:=jm r1 (b:=s.x0) (x:=x) (fun t ht=>(hd t ht).1) (by omega);rw[r2]at this;simpa[h3]using this
    all_goals simp[h1,h2]
   ·rename_i hn;rw[List.singleton_append];refine⟨adW hx hn (fun t ht=>?_) r1,fun x=>?_⟩
    ·obtain⟨d1,d2⟩:=hd t ht;refine⟨by show x1<=t.x0;omega,fun ht2 hcc=>?_⟩;have ht2:x1=t.x0:=ht2;rw[d2 (by omega)]at hcc;exact hcol hcc.symm
    ·rw[iG,r2,iG]
theorem xW {l:List aI} (h:pu l):Runs (Bw l)∧∀ x,eF (Bw l) x=eF l x:=by
 cases l with
 |nil=>exact⟨trivial,fun _=>rfl⟩
 |cons s l=>
  have hs:s.x0 < s.x1∧(∀ u∈l.head?,s.x1=u.x0)∧pu l:=by
   cases l with
   |nil=>exact⟨h,fun u hu=>(by cases hu),trivial⟩
   |cons v l=>exact⟨h.1,fun u hu=>by have:u=v:=by simpa using hu.symm
                                     subst this;exact h.2.1,h.2.2⟩
  obtain⟨r1,r2⟩:=I6 l s.x0 s.x1 s.column hs.1 hs.2.1 hs.2.2;exact⟨r1,fun x=>by rw[iG];exact r2 x⟩
theorem H8 {l m:List aI} (hl:pu l) (hm:pu m) (h:∀ x,eF l x=eF m x):aR l=aR m:=by
 obtain⟨l1,l2⟩:=xW hl;obtain⟨m1,m2⟩:=xW hm;rw[uF,uF,Ox l1 m1 fun x=>by rw[l2,m2,h]]
theorem SB (l m:List aj) (x:Int):bK (l++m) x=bK l x++bK m x:=by simp[bK]
theorem UG (x0 x1:Int) (c:List aC) (x:Int):bK (ay x0 x1 c) x=bif decide (x0<=x)&&decide (x < x1)then c else []:=by
 unfold bK ay
 induction c with
 |nil=>simp
 |cons s c ih=>
  rw[map_cons,List.filter_cons];cases h:(decide (x0<=x)&&decide (x < x1))with
  |true=>rw[h]at ih;simp only[if_true,map_cons,ih,cond_true]
  |false=>rw[h]at ih;simpa using ih
theorem KL:∀ {l:List aI},Runs l->∀ x,bK (fO l) x=eF l x
 |[],_,x=>rfl
 |s::l,h,x=>by
  have ih:=KL (eZ h) x;have hs:=gH h;show bK (ay s.x0 s.x1 s.column++fO l) x=_;rw[SB,UG,ih,iG];cases hc:(decide (s.x0<=x)&&decide (x < s.x1))with
  |false=>rfl
  |true=>
   rw[and_eq_true,decide_eq_true_eq,decide_eq_true_eq]at hc;have:=jm (eZ h) (b:=s.x1) (x:=x) (fun t ht=>by
    cases l with
    |nil=>cases ht
    |cons u l=>
     have:t=u:=(by simpa using ht.symm);subst this;exact h.2.1) hc.2
   rw[this];simp
theorem Fj {l:List aI} (h:pu l) (x:Int):bK (aR l) x=eF l x:=by
 obtain⟨h1,h2⟩:=xW h;rw[uF,KL h1,h2]
theorem KM {l:List aI} (h:pu l) (x y:Int):bf (aR l) x y=inS (eF l x) y:=by rw[<- Fg,Fj h]
theorem KN {α:Type} (f:Int->Int->α) (a b:Int) (l:List Int):nO f (a::b::l)=f a b::nO f (b::l):=rfl
theorem C9 (g:Int->List aC):∀ (es:List Int),es.Pairwise (· < ·)->pu (nO (fun a b=>(⟨a,b,g a⟩:aI)) es)
 |[],_=>trivial
 |[_],_=>trivial
 |[a,b],h=>by
  have h1:=(pairwise_cons.1 h).1 b (by simp);exact h1
 |a::b::c::l,h=>by
  have h1:=(pairwise_cons.1 h).1 b (by simp);exact⟨h1,rfl,C9 g (b::c::l) (pairwise_cons.1 h).2⟩
theorem Fp (g:Int->List aC) (x:Int):∀ (es:List Int),(∀ e∈es,x < e)->eF (nO (fun a b=>(⟨a,b,g a⟩:aI)) es) x=[]
 |[],_=>rfl
 |[_],_=>rfl
 |a::b::l,h=>by
  have ha:=h a (by simp);rw[KN,iG,show (decide (a<=x)&&decide (x < b))=false by rw[Bool.and_eq_false_iff,decide_eq_false_iff_not];left;omega,cond_false];exact Fp g x (b::l) fun e he=>h e (mem_cons_of_mem _ he)
theorem Fq (g:Int->List aC) (x:Int):∀ (l:List Int) (a:Int),(a::l).Pairwise (· < ·)->a<=x->
 (∀ e∈a::l,e<=x->(∀ e'∈a::l,e'<=e∨x < e')->g e=g x)->((∀ e∈a::l,e<=x)->g x=[])->eF (nO (fun a b=>(⟨a,b,g a⟩:aI)) (a::l)) x=g x
 |[],a,_,hx,_,h2=>(h2 (fun e he=>by have:e=a:=by simpa using he
                                    subst this;exact hx)).symm
 |b::l,a,hp,hx,h1,h2=>by
  have hab:=(pairwise_cons.1 hp).1 b (by simp);rw[KN,iG];by_cases hb:x < b
  ·rw[show (decide (a<=x)&&decide (x < b))=true by simp[hx,hb],cond_true];refine h1 a (by simp) hx fun e he=>?_;rcases mem_cons.1 he with rfl |he
   ·exact .inl (Int.le_refl _)
   ·right;rcases mem_cons.1 he with rfl |he
    ·exact hb
    ·have:=(pairwise_cons.1 (pairwise_cons.1 hp).2).1 e he;omega
  ·rw[show (decide (a<=x)&&decide (x < b))=false by simp[hb],cond_false];refine Fq g x l b (pairwise_cons.1 hp).2 (by omega) (fun e he hex hc=>h1 e (mem_cons_of_mem _ he) hex fun e' he'=>?_) fun hall=>h2 fun e he=>?_
   ·rcases mem_cons.1 he' with rfl |he'
    ·left;have:=(pairwise_cons.1 hp).1 e he;omega
    ·exact hc e' he'
   ·rcases mem_cons.1 he with rfl |he
    ·exact hx
    ·exact hall e he
theorem Oz (g:Int->List aC) (es:List Int) (hp:es.Pairwise (· < ·)) (x:Int)
 (h1:∀ e∈es,e<=x->(∀ e'∈es,e'<=e∨x < e')->g e=g x) (h2:(∀ e∈es,e<=x)->g x=[]) (h3:(∀ e∈es,x < e)->g x=[]):eF (nO (fun a b=>(⟨a,b,g a⟩:aI)) es) x=g x:=by
 cases es with
 |nil=>exact (h3 (by simp)).symm
 |cons a l=>
  by_cases hx:a<=x
  ·exact Fq g x l a hp hx h1 h2
  ·have hall:∀ e∈a::l,x < e:=by
    intro e he;rcases mem_cons.1 he with rfl |he
    ·omega
    ·have:=(pairwise_cons.1 hp).1 e he;omega
   rw[Fp g x _ hall,h3 hall]
theorem I7 {l:List aj} {z:Int}:z∈aL l↔∃ r∈l,z=r.x0∨z=r.x1:=by
 rw[aL,Zw,mem_flatMap];simp
theorem zZ (l:List aj):(aL l).Pairwise (· < ·):=Oq _
theorem UH {l:List aj} {es:List Int} (hes:∀ r∈l,r.x0∈es∧r.x1∈es) {e x:Int} (hex:e<=x) (hc:∀ e'∈es,e'<=e∨x < e'):bK l e=bK l x:=by
 unfold bK;congr 1;refine List.filter_congr fun r hr=>?_;obtain⟨h0,h1⟩:=hes r hr;have:=hc _ h0;have:=hc _ h1;rw[Bool.eq_iff_iff,and_eq_true,and_eq_true,decide_eq_true_eq,decide_eq_true_eq,decide_eq_true_eq,decide_eq_true_eq];omega
theorem KO {l:List aj} {x:Int} (h:∀ r∈l,x < r.x0∨r.x1<=x):bK l x=[]:=by
 unfold bK;rw[List.map_eq_nil_iff,List.filter_eq_nil_iff];intro r hr;have:=h r hr;rw[and_eq_true,decide_eq_true_eq,decide_eq_true_eq];omega
theorem jX (l:List aj):pu (aJ l):=C9 _ _ (zZ l)
theorem ow (l:List aj) (x:Int):eF (aJ l) x=bJ l x:=by
 have hes:∀ r∈l,r.x0∈aL l∧r.x1∈aL l:=fun r hr=>⟨I7.2 ⟨r,hr,.inl rfl⟩,I7.2 ⟨r,hr,.inr rfl⟩⟩;refine Oz (bJ l) (aL l) (zZ l) x (fun e _ hex hc=>?_) (fun hall=>?_) (fun hall=>?_)
 ·unfold bJ;rw[UH hes hex hc]
 ·unfold bJ;rw[KO fun r hr=> .inr (hall _ (hes r hr).2)];rfl
 ·unfold bJ;rw[KO fun r hr=> .inl (hall _ (hes r hr).1)];rfl
theorem afv {c:List aC} (h:Can c):ZG c=c:=by
 obtain⟨h1,h2⟩:=MC h.2;exact l7 h1 h h2
theorem OA {l:List aI} {r:aj}:r∈fO l↔∃ s∈l,∃ q∈s.column,r=⟨s.x0,q.from_,s.x1,q.to⟩:=by
 simp only[fO,ay,mem_flatMap,mem_map];constructor
 ·rintro⟨s,hs,q,hq,rfl⟩;exact⟨s,hs,q,hq,rfl⟩
 ·rintro⟨s,hs,q,hq,rfl⟩;exact⟨s,hs,q,hq,rfl⟩
theorem uG:∀ {l:List aI},Runs l->∀ s∈l,s.x0 < s.x1∧∀ x,s.x0<=x->x < s.x1->eF l x=s.column
 |[],_,s,hs=>by simp at hs
 |t::l,h,s,hs=>by
  rcases mem_cons.1 hs with rfl |hs
  ·exact⟨(gH h).1,fun x h1 h2=>tC h1 h2⟩
  ·obtain⟨g1,g2⟩:=uG (eZ h) s hs;refine⟨g1,fun x h1 h2=>?_⟩;have:t.x1<=x:=by
    by_cases hlt:x < t.x1
    ·have hb:=jm (eZ h) (b:=t.x1) (x:=x) (fun u hu=>by
      cases l with
      |nil=>cases hu
      |cons v l=>
       have:u=v:=(by simpa using hu.symm);subst this;exact h.2.1) hlt
     rw[g2 x h1 h2]at hb;have hne:s.column≠[]:=by
      have:∀ {l:List aI},Runs l->∀ s∈l,s.column≠[]:=by
       intro l
       induction l with
       |nil=>intro _ s hs;simp at hs
       |cons a l ih=>
        intro h s hs;rcases mem_cons.1 hs with rfl |hs
        ·exact (gH h).2
        ·exact ih (eZ h) s hs
      exact this (eZ h) s hs
     exact absurd hb hne
    ·omega
   rw[uE this,g2 x h1 h2]
theorem KP {S:List aI} (hS:pu S) (hc:∀ x,Can (eF S x)) (hb:∀ x y,inS (eF S x) y=true->(0<=x∧x < 1048576)∧(0<=y∧y < 1048576)) (hl:(aR S).length<=200):rightL (aR S)=true:=by
 have hok:∀ r∈aR S,OkR r=true:=by
  intro r hr;obtain⟨r1,r2⟩:=xW hS;rw[uF,OA]at hr;obtain⟨s,hs,q,hq,rfl⟩:=hr;obtain⟨g1,g2⟩:=uG r1 s hs;have c0:=g2 s.x0 (Int.le_refl _) g1;have c1:=g2 (s.x1 - 1) (by omega) (by omega);rw[r2]at c0 c1;have hcan:=hc s.x0;rw[c0]at hcan;have hq1:q.from_ < q.to:=hcan.2 q hq;have b0:=hb s.x0 q.from_ (by rw[c0,tu];exact⟨q,hq,Int.le_refl _,hq1⟩);have b1:=hb (s.x1 - 1) (q.to - 1) (by rw[c1,tu];exact⟨q,hq,by omega,by omega⟩);simp only[OkR,and_eq_true,decide_eq_true_eq];omega
 have he:aR (aJ (aR S))=aR S:=by
  refine H8 (jX _) hS fun x=>?_;rw[ow,bJ,Fj hS,afv (hc x)]
 unfold rightL ofL;rw[if_pos (all_eq_true.2 hok),if_neg (by omega),he,if_neg (by omega)];simp
theorem adX {a:List aj} (h:rightL a=true):ofL a=(a,0):=by
 unfold rightL at h;rw[and_eq_true,decide_eq_true_eq,decide_eq_true_eq]at h;obtain⟨h1,h2⟩:=h;exact Prod.ext h2 h1
theorem bn {a:List aj} (h:rightL a=true):(∀ r∈a,OkR r=true)∧a.length<=200∧aR (aJ a)=a:=by
 have h:=adX h;unfold ofL at h;split at h
 ·rename_i hall;split at h
  ·simp at h
  ·split at h
   ·simp at h
   ·rename_i h200;injection h with h _;refine⟨all_eq_true.1 hall,?_,h⟩;rw[<- h];omega
 ·simp at h
theorem UI {a b:List aj} (ha:rightL a=true) (hb:rightL b=true) (h:∀ x y,bf a x y=bf b x y):a=b:=by
 obtain⟨a1,_,a3⟩:=bn ha;obtain⟨b1,_,b3⟩:=bn hb;rw[<- a3,<- b3];refine H8 (jX a) (jX b) fun x=>?_;rw[ow,ow];refine l7 (dX a1 x).1 (dX b1 x).1 fun y=>?_;rw[(dX a1 x).2,(dX b1 x).2,h]
theorem Da {a:List aj} (h:∀ r∈a,OkR r=true) {x y:Int} (hc:bf a x y=true):(0<=x∧x < 1048576)∧(0<=y∧y < 1048576):=by
 simp only[bf,any_eq_true,and_eq_true,decide_eq_true_eq]at hc;obtain⟨q,hq,h1,h2⟩:=hc;have:=h q hq;simp only[OkR,and_eq_true,decide_eq_true_eq]at this;omega
def ext (out:List aC) (p:aC):List aC:=
 match out.getLast? with
 |some q=>bif q.to==p.from_ then out.dropLast++[⟨q.from_,p.to⟩]else out++[p]
 |none=>[p]
theorem SC (o:List aC) (q p:aC):ext (o++[q]) p=bif q.to==p.from_ then o++[⟨q.from_,p.to⟩]else o++[q]++[p]:=by simp[ext]
theorem afw {out:List aC} {p:aC} (hc:Can out) (hp:OkS p) (hb:∀ o∈out,o.to<=p.from_):
 Can (ext out p)∧(∀ o∈ext out p,o.to<=p.to)∧∀ y,inS (ext out p) y=(inS out y || inS [p] y):=by
 have hp':p.from_ < p.to:=hp;rcases List.eq_nil_or_concat out with rfl |⟨o,q,rfl⟩
 ·refine⟨⟨by simp[ext],by simp[ext];exact hp⟩,by simp[ext],fun y=>by simp[ext,inS]⟩
 ·rw[List.concat_eq_append]at*;obtain⟨h1,h2⟩:=hc;rw[pairwise_append]at h1;obtain⟨p1,_,p3⟩:=h1;have hq:q.from_ < q.to:=h2 q (by simp);have hqp:q.to<=p.from_:=hb q (by simp);rw[SC];cases hj:q.to==p.from_ with
  |true=>
   have hj:=eq_of_beq hj;simp only[cond_true];refine⟨⟨?_,?_⟩,?_,?_⟩
   ·rw[pairwise_append];refine⟨p1,by simp,fun a ha b hb'=>?_⟩;rw[mem_singleton]at hb';subst hb';exact p3 a ha q (by simp)
   ·intro a ha;rcases mem_append.1 ha with ha |ha
    ·exact h2 a (by simp[ha])
    ·rw[mem_singleton]at ha;subst ha;show q.from_ < p.to;omega
   ·intro a ha;rcases mem_append.1 ha with ha |ha
    ·have:=hb a (by simp[ha]);omega
    ·rw[mem_singleton]at ha;subst ha;exact Int.le_refl _
   ·intro y;rw[l6,l6,Bool.or_assoc];congr 1;simp only[jU,wH,Bool.or_false];rw[Bool.eq_iff_iff];simp only[and_eq_true,Bool.or_eq_true,decide_eq_true_eq];omega
  |false=>
   rw[beq_eq_false_iff_ne]at hj;simp only[cond_false];refine⟨⟨?_,?_⟩,?_,?_⟩
   ·rw[pairwise_append];refine⟨?_,by simp,fun a ha b hb'=>?_⟩
    ·rw[pairwise_append];exact⟨p1,by simp,p3⟩
    ·rw[mem_singleton]at hb';subst hb';rcases mem_append.1 ha with ha |ha
     ·have:=p3 a ha q (by simp);omega
     ·rw[mem_singleton]at ha;subst ha;omega
   ·intro a ha;rcases mem_append.1 ha with ha |ha
    ·exact h2 a ha
    ·rw[mem_singleton]at ha;subst ha;exact hp
   ·intro a ha;rcases mem_append.1 ha with ha |ha
    ·have:=hb a ha;omega
    ·rw[mem_singleton]at ha;subst ha;exact Int.le_refl _
   ·intro y;rw[l6]
theorem V6:∀ (l out:List aC),Can out->(∀ s∈l,OkS s)->l.Pairwise (fun x y=>x.to<=y.from_)->(∀ o∈out,∀ s∈l,o.to<=s.from_)->Can (l.foldl ext out)∧∀ y,inS (l.foldl ext out) y=(inS out y || inS l y)
 |[],out,hc,_,_,_=>⟨hc,fun y=>by simp[wH]⟩
 |s::l,out,hc,hv,hp,hb=>by
  rw[pairwise_cons]at hp;obtain⟨m1,m2,m3⟩:=afw hc (hv s (by simp)) (fun o ho=>hb o ho s (by simp));obtain⟨f1,f2⟩:=V6 l (ext out s) m1 (fun t ht=>hv t (by simp[ht])) hp.2 (fun o ho t ht=>Int.le_trans (m2 o ho) (hp.1 t ht));refine⟨f1,fun y=>?_⟩;rw[foldl_cons,f2,m3,Bool.or_assoc,<- l6];rfl
def Fs (r:aj):Int:=(r.x1 - r.x0)*(r.y1 - r.y0)
def sumA (l:List aj):Int:=(l.map Fs).sum
def jZ (r:aj) (x y:Int):Bool:=(decide (r.x0<=x)&&decide (x < r.x1))&&(decide (r.y0<=y)&&decide (y < r.y1))
theorem zx {r:aj} (h:OkR r=true):0<=Fs r∧Fs r<=1099511627776:=by
 simp only[OkR,and_eq_true,decide_eq_true_eq]at h;unfold Fs;refine⟨Int.mul_nonneg (by omega) (by omega),?_⟩;have:=Int.mul_le_mul (show r.x1 - r.x0<=1048576 by omega) (show r.y1 - r.y0<=1048576 by omega) (by omega) (by omega);omega
theorem I8:∀ {l:List aj},(∀ r∈l,OkR r=true)->0<=sumA l∧sumA l<=1099511627776*(l.length:Int)
 |[],_=>by simp[sumA]
 |r::l,h=>by
  have h1:=zx (h r mem_cons_self);have h2:=I8 (l:=l) fun q hq=>h q (mem_cons_of_mem _ hq);have e:sumA (r::l)=Fs r+sumA l:=rfl;rw[e,length_cons]
  push_cast
  omega
theorem Fu {n:Nat} {l:List aj} {φ:(aj×Unit)->Option Bool} (p:aj->Bool) (h:∀ x∈l,φ (x,())=some (p x)) (hl:l.length < 1099511627776) (hn:l.length < n):qJ n l φ=some (abB p l):=oF p h hl hn
theorem pU {n:Nat} {l:List aj} {φ:(aj×Unit)->Option Bool} (p:aj->Bool) (h:∀ x∈l,φ (x,())=some (p x)) (hl:l.length < 1099511627776) (hn:l.length < n):fT n l φ=some (l.any p):=by
 unfold fT;rw[Fu p h hl hn,bind_some,Kc]
theorem rP:∀ (l:List Int) (x:Int),(l++[x]).sum=l.sum+x
 |[],x=>by simp
 |a::l,x=>by rw[cons_append,List.sum_cons,List.sum_cons,rP l x];omega
theorem V7 {r:aj} (h:OkR r=true):E9 r=some (Fs r):=by
 have hb:=zx h;unfold E9 wW;rw[o9,h];simp only[bind_some,cond_true];simp only[OkR,and_eq_true,decide_eq_true_eq]at h;unfold Fs at*;rw[aO (x:=r.x1 - r.x0) (by omega) (by omega),aO (x:=r.y1 - r.y0) (by omega) (by omega),aO (by omega) (by omega)]
theorem abN {n:Nat} {a:List aj} (ha:a.length<=900) (hn:1000<=n):Qe n a=some (bif rightL a then sumA a else 0):=by
 unfold Qe;rw[jl (by omega) (by omega) hn];simp only[bind_some];cases hr:rightL a with
 |false=>rfl
 |true=>
  have ok:=(bn hr).1;have:=eO (step:=CY a) (fun i=>(sumA (a.take i),((i:Nat):Int))) a.length (sumA a) (fun i hi=>?_) ?_ n (by omega)
  ·have e:sumA (a.take 0)=0:=rfl;rw[e,show ((0:Nat):Int)=0 from rfl]at this;simp only[Bool.not_true,cond_false,cond_true,this,bind_some]
  ·have c:decide (((i:Nat):Int) < (a.length:Int))=true:=(by simpa using hi);have h1:=I8 (l:=a.take i) fun r hr=>ok r (List.mem_of_mem_take hr);rw[length_take]at h1;have h2:=zx (ok _ (getElem_mem hi));have e:sumA (a.take (i+1))=sumA (a.take i)+Fs a[i]:=(by rw[take_succ_eq_append_getElem hi];unfold sumA;rw[map_append];exact rP _ _);simp only[CY,c,cond_true,aZ hi,bind_some,V7 (ok _ (getElem_mem hi))];rw[ax (by omega),aO (by omega) (by omega),e]
  ·simp[CY]
theorem MK {α:Type} (p:α->Bool) (l:List α):(match kS p l with |some _=>true |none=>false)=l.any p:=by
 have:=mH p l;rw[<- this];cases kS p l<;>rfl
def V8 (p q:aj):Bool:=decide (max p.x0 q.x0 < min p.x1 q.x1)&&decide (max p.y0 q.y0 < min p.y1 q.y1)
def meetL (a b:List aj):Bool:=a.any fun p=>b.any fun q=>V8 p q
theorem abO {n:Nat} {a b:List aj} (ha:a.length < 1099511627776) (hb:b.length < 1099511627776) (hna:a.length < n) (hnb:b.length < n):Qg n a b=some (meetL a b):=by
 unfold Qg meetL;rw[pU (fun p=>b.any fun q=>V8 p q) (fun p _=>?_) ha hna]
 ·rfl
 ·show CZ n p b=_;unfold CZ;rw[pU (fun q=>V8 p q) (fun q _=>?_) hb hnb]
  ·rfl
  ·show sZ q p=_;unfold sZ V8;have e1:max q.x0 p.x0=max p.x0 q.x0:=(by omega);have e2:min q.x1 p.x1=min p.x1 q.x1:=(by omega);have e3:max q.y0 p.y0=max p.y0 q.y0:=(by omega);have e4:min q.y1 p.y1=min p.y1 q.y1:=by omega
   first
    |(cases decide (max p.x0 q.x0 < min p.x1 q.x1)<;>rfl)
    |(rw [e1,e2,e3,e4];cases decide (max p.x0 q.x0 < min p.x1 q.x1)<;>rfl)
theorem ZK (a b:List aj):meetL a b=true↔∃ x y,bf a x y=true∧bf b x y=true:=by
 have h:∀ (l:List aj) (x y:Int),bf l x y=true↔∃ r∈l,(r.x0<=x∧x < r.x1)∧(r.y0<=y∧y < r.y1):=fun l x y=>by simp[bf,and_assoc]
 unfold meetL;simp only[any_eq_true,h];constructor
 ·rintro⟨p,hp,q,hq,hm⟩;simp only[V8,and_eq_true,decide_eq_true_eq]at hm;exact⟨max p.x0 q.x0,max p.y0 q.y0,⟨p,hp,by omega⟩,⟨q,hq,by omega⟩⟩
 ·rintro⟨x,y,⟨p,hp,h1⟩,⟨q,hq,h2⟩⟩;refine⟨p,hp,q,hq,?_⟩;simp only[V8,and_eq_true,decide_eq_true_eq];omega
theorem abP {n:Nat} {a b:List aj} (hl:a.length < 1099511627776) (hn:a.length < n):Qf n a b=some (decide (a=b)):=by
 unfold Qf;rw[mZ hl hn];rfl
abbrev ltY (a b:aj):Bool:=decide (a.y0 < b.y0)
theorem Ql:Go.Sort.SWO ltY where
 irrefl x:=by simp[ltY]
 trans x y z h1 h2:=by simp only[ltY,decide_eq_true_eq]at *;omega
 ntrans x y z h1 h2:=by simp only[ltY,decide_eq_false_iff_not]at *;omega
instance:Inhabited aj:=⟨aj.mk 0 0 0 0⟩
theorem adY (n:Nat) (rc:List aj->Int->Int->Int->((aj×aj×Unit)->Option Int)->Option (List aj)) (φ:(aj×aj×Unit)->Option Int) (l:List aj) (a b d:Int):fM n rc l a b d φ=iC (fun x y=>φ (x,y,())) (fun r=>decide (r < 0)) aM aN n (fun l a b d=>rc l a b d φ) l a b d:=by kernel_rfl
theorem V9 (n:Nat) (φ:(aj×aj×Unit)->Option Int):∀ m l a b d,cK n m l a b d φ=fH (fun x y=>φ (x,y,())) (fun r=>decide (r < 0)) aM aN n m l a b d
 | 0,l,a,b,d=>rfl
 |m+1,l,a,b,d=>by
  have e:(fun l a b d=>cK n m l a b d φ)=fH (fun x y=>φ (x,y,())) (fun r=>decide (r < 0)) aM aN n m:=by
   funext l a b d;exact V9 n φ m l a b d
  show fM n (cK n m) l a b d φ=iC (fun x y=>φ (x,y,())) (fun r=>decide (r < 0)) aM aN n (fH (fun x y=>φ (x,y,())) (fun r=>decide (r < 0)) aM aN n m) l a b d;rw[<- e];exact adY n (cK n m) φ l a b d
theorem GK {n:Nat} {l:List aj} {φ:(aj×aj×Unit)->Option Int} (f:aj->aj->Int) (hφ:∀ x y,φ (x,y,())=some (f x y)) (hf:∀ x y,decide (f x y < 0)=ltY x y) (hl:l.length < 1099511627776) (hn:l.length < n):mY n l φ=some (xK ltY l):=by
 unfold mY kH;rw[mJ (by omega),zq (by omega)];simp only[bind_some,aB,cond_true,V9];rw[xL (lt:=ltY) Ql (f:=f) (q:=fun r=>decide (r < 0)) hφ hf afp afq (by omega) hn hn];rfl
def KQ (r:aj):aC:=⟨r.y0,r.y1⟩
theorem ZL (x0 x1:Int) (c:List aC):(ay x0 x1 c).map KQ=c:=by
 unfold ay;rw[List.map_map];exact List.map_id'' (fun s=>rfl) c
theorem aS (x0 x1:Int) (c:List aC):(ay x0 x1 c).length=c.length:=by simp[ay]
theorem SF {x0 x1:Int} {c:List aC} {i:Nat} (h:i < c.length):at? (ay x0 x1 c) (i:Int)=some ⟨x0,c[i].from_,x1,c[i].to⟩:=by
 rw[aZ (by rw[aS];exact h)];simp[ay]
theorem Wd {x0 x1:Int}:∀ {L:List aj},(∀ r∈L,r.x0=x0∧r.x1=x1)->L=ay x0 x1 (L.map KQ)
 |[],_=>rfl
 |r::L,h=>by
  have h1:=h r mem_cons_self;have h2:=Wd (L:=L) fun q hq=>h q (mem_cons_of_mem _ hq);show r::L=⟨x0,r.y0,x1,r.y1⟩::ay x0 x1 (L.map KQ);rw[<- h2];obtain⟨a,b,c,d⟩:=r;obtain⟨rfl,rfl⟩:=h1;rfl
def Db (l:List aj) (x0 x1:Int):List aC:=(l.filter fun r=>decide (r.x0<=x0)&&decide (x1<=r.x1)).map KQ
theorem SG (s t:aI) (h:s.column≠t.column):∀ (S:List aI) (x0 x1:Int) (c:List aC),yE x0 x1 c (S++[t,s])=yE x0 x1 c (S++[t])++ay s.x0 s.x1 s.column
 |[],x0,x1,c=>by
  simp only[nil_append,yE];split
  ·rename_i e;rw[if_neg (fun h'=>h (h'.trans e.symm))]
  ·rw[append_assoc]
 |a::S,x0,x1,c=>by
  simp only[cons_append,yE];split
  ·exact SG s t h S _ _ _
  ·rw[SG s t h S,append_assoc]
theorem ML (s t:aI) (h:s.column=t.column):∀ (S:List aI) (x0 x1:Int) (c:List aC),∃ pre x',yE x0 x1 c (S++[t])=pre++ay x' t.x1 t.column∧yE x0 x1 c (S++[t,s])=pre++ay x' s.x1 t.column
 |[],x0,x1,c=>by
  simp only[nil_append,yE];split
  ·rename_i e;refine⟨[],x0,by rw[e];rfl,?_⟩;rw[if_pos (h.trans e),e];rfl
  ·exact⟨ay x0 x1 c,t.x0,rfl,rfl⟩
 |a::S,x0,x1,c=>by
  simp only[cons_append,yE];split
  ·exact ML s t h S _ _ _
  ·obtain⟨pre,x',h1,h2⟩:=ML s t h S a.x0 a.x1 a.column;exact⟨ay x0 x1 c++pre,x',by rw[h1,append_assoc],by rw[h2,append_assoc]⟩
theorem SH (s t:aI) (h:s.column≠t.column) (S:List aI):aR (S++[t,s])=aR (S++[t])++ay s.x0 s.x1 s.column:=by
 cases S with
 |nil=>simp only[nil_append,aR,yE,if_neg h]
 |cons a S=>exact SG s t h S _ _ _
theorem OC (s t:aI) (h:s.column=t.column) (S:List aI):∃ pre x',aR (S++[t])=pre++ay x' t.x1 t.column∧aR (S++[t,s])=pre++ay x' s.x1 t.column:=by
 cases S with
 |nil=>exact⟨[],t.x0,rfl,by simp only[nil_append,aR,yE,if_pos h]⟩
 |cons a S=>exact ML s t h S _ _ _
def OD (P:List aI) (i:Nat):List aj:=match (P.take i).getLast? with
 |some s=>ay s.x0 s.x1 s.column
 |none=>[]
def unq (s:aK):aC:=⟨s.from_,s.to⟩
def cS (c:List aK):List aC:=c.map unq
def tS (s:aX):aI:=⟨s.x0,s.x1,cS s.column⟩
def Bz (d:Int) (c:List aC):List aK:=(c.filter fun s=>decide (s.from_+d < s.to - d)).map fun s=>⟨s.from_+d,s.to - d⟩
theorem afx (d:Int) (c:List aC):cS (Bz d c)=(c.filter fun s=>decide (s.from_+d < s.to - d)).map fun s=>⟨s.from_+d,s.to - d⟩:=by simp[cS,Bz,unq,Function.comp_def]
theorem ZM {d:Int} (hd:0<=d) {c:List aC} (h:Can c):Can (cS (Bz d c)):=by
 rw[afx];refine⟨?_,fun s hs=>?_⟩
 ·rw[List.pairwise_map];refine (h.1.filter _).imp fun {a b} hab=>?_;show a.to - d < b.from_+d;omega
 ·obtain⟨t,ht,rfl⟩:=mem_map.1 hs;have:=(mem_filter.1 ht).2;simpa using this
theorem ac2 {d:Int} (hd:0<=d) {c:List aC} (h:Can c) (y:Int):inS (cS (Bz d c)) y=true↔∀ z,y - d<=z->z<=y+d->inS c z=true:=by
 rw[afx,tu];constructor
 ·rintro⟨s,hs,h1,h2⟩ z hz1 hz2;obtain⟨t,ht,rfl⟩:=mem_map.1 hs;have ht':=(mem_filter.1 ht).1;simp only at h1 h2;exact (tu c z).2 ⟨t,ht',by omega,by omega⟩
 ·intro hall;obtain⟨t,ht,h1,h2⟩:=(tu c (y - d)).1 (hall (y - d) (by omega) (by omega));by_cases hto:t.to<=y+d
  ·exfalso;obtain⟨u,hu,g1,g2⟩:=(tu c t.to).1 (hall t.to (by omega) hto);have ot:=h.2 t ht;obtain⟨i,hi,rfl⟩:=mem_iff_getElem.1 ht;obtain⟨j,hj,rfl⟩:=mem_iff_getElem.1 hu;have pw:=List.pairwise_iff_getElem.1 h.1;rcases Nat.lt_trichotomy i j with e |e |e
   ·have:=pw i j hi hj e;omega
   ·subst e;omega
   ·have:=pw j i hj hi e;omega
  ·refine⟨⟨t.from_+d,t.to - d⟩,mem_map.2 ⟨t,mem_filter.2 ⟨ht,?_⟩,rfl⟩,?_,?_⟩
   ·simp;omega
   ·show t.from_+d<=y;omega
   ·show y < t.to - d;omega
def MN (a b:List aK):List aK:=a.flatMap fun x=>(b.filter fun y=>decide (max x.from_ y.from_ < min x.to y.to)).map fun y=>⟨max x.from_ y.from_,min x.to y.to⟩
theorem KR {a b:List aK} {s:aK}:s∈MN a b↔∃ x∈a,∃ y∈b,max x.from_ y.from_ < min x.to y.to∧s=⟨max x.from_ y.from_,min x.to y.to⟩:=by
 simp only[MN,mem_flatMap,mem_map,mem_filter,decide_eq_true_eq];constructor
 ·rintro⟨x,hx,y,⟨hy,h⟩,rfl⟩;exact⟨x,hx,y,hy,h,rfl⟩
 ·rintro⟨x,hx,y,hy,h,rfl⟩;exact⟨x,hx,y,⟨hy,h⟩,rfl⟩
theorem abQ (c:List aK) (y:Int):inS (cS c) y=true↔∃ s∈c,s.from_<=y∧y < s.to:=by
 rw[tu];constructor
 ·rintro⟨s,hs,h⟩;obtain⟨t,ht,rfl⟩:=mem_map.1 hs;exact⟨t,ht,h⟩
 ·rintro⟨s,hs,h⟩;exact⟨unq s,mem_map.2 ⟨s,hs,rfl⟩,h⟩
theorem afy (c:List aK):Can (cS c)↔c.Pairwise (fun a b=>a.to < b.from_)∧∀ s∈c,s.from_ < s.to:=by
 unfold Can cS;rw[List.pairwise_map];constructor
 ·rintro⟨h1,h2⟩;exact⟨h1,fun s hs=>h2 _ (mem_map.2 ⟨s,hs,rfl⟩)⟩
 ·rintro⟨h1,h2⟩;exact⟨h1,fun s hs=>by obtain⟨t,ht,rfl⟩:=mem_map.1 hs;exact h2 t ht⟩
theorem ZN {a b:List aK} (ha:Can (cS a)) (hb:Can (cS b)):Can (cS (MN a b)):=by
 rw[afy]at*;refine⟨?_,fun s hs=>?_⟩
 ·unfold MN;rw[List.pairwise_flatMap];refine⟨fun x _=>?_,ha.1.imp fun {x x'} hx=>?_⟩
  ·rw[List.pairwise_map];refine (hb.1.filter _).imp fun {y y'} hy=>?_;show min x.to y.to < max x.from_ y'.from_;omega
  ·intro p hp q hq;obtain⟨y,_,rfl⟩:=mem_map.1 hp;obtain⟨y',_,rfl⟩:=mem_map.1 hq;show min x.to y.to < max x'.from_ y'.from_;omega
 ·obtain⟨x,_,y,_,h,rfl⟩:=KR.1 hs;exact h
theorem agB (a b:List aK) (y:Int):inS (cS (MN a b)) y=(inS (cS a) y&&inS (cS b) y):=by
 rw[Bool.eq_iff_iff,and_eq_true,abQ,abQ,abQ];constructor
 ·rintro⟨s,hs,h1,h2⟩;obtain⟨p,hp,q,hq,_,rfl⟩:=KR.1 hs;simp only at h1 h2;exact⟨⟨p,hp,by omega,by omega⟩,⟨q,hq,by omega,by omega⟩⟩
 ·rintro⟨⟨p,hp,h1,h2⟩,⟨q,hq,h3,h4⟩⟩;exact⟨_,KR.2 ⟨p,hp,q,hq,by omega,rfl⟩,by show max p.from_ q.from_<=y;omega,by show y < min p.to q.to;omega⟩
def I9 (F:List Int) (c:List aK):Prop:=Can (cS c)∧∀ s∈c,s.from_∈F
theorem MO {α:Type} [DecidableEq α]:∀ {l m:List α},l.Pairwise (· ≠ ·)->(∀ x∈l,x∈m)->l.length<=m.length
 |[],_,_,_=>by simp
 |a::l,m,h,hm=>by
  have h1:=pairwise_cons.1 h;have:=MO (l:=l) (m:=m.erase a) h1.2 fun x hx=>(List.mem_erase_of_ne (fun e=>h1.1 x hx e.symm)).2 (hm x (mem_cons_of_mem _ hx));have e:=List.length_erase_of_mem (hm a mem_cons_self);have p:=List.length_pos_of_mem (hm a mem_cons_self);rw[length_cons];omega
theorem SK {F:List Int} {c:List aK} (h:I9 F c):c.length<=F.length:=by
 obtain⟨h1,h2⟩:=h;rw[afy]at h1;have:=MO (l:=c.map (·.from_)) (m:=F) (by
  rw[List.pairwise_map];refine (List.Pairwise.and_mem.1 h1.1).imp fun {a b} hab=>?_;have:=h1.2 a hab.1;have:=hab.2.2;omega) (fun x hx=>by obtain⟨s,hs,rfl⟩:=mem_map.1 hx;exact h2 s hs)
 simpa using this
theorem Wh {F:List Int} {a b:List aK} (ha:I9 F a) (hb:I9 F b):I9 F (MN a b):=by
 refine⟨ZN ha.1 hb.1,fun s hs=>?_⟩;obtain⟨x,hx,y,hy,_,rfl⟩:=KR.1 hs;show max x.from_ y.from_∈F;have h1:=ha.2 x hx;have h2:=hb.2 y hy;rcases Int.le_total x.from_ y.from_ with h |h
 ·rw[Int.max_eq_right h];exact h2
 ·rw[Int.max_eq_left h];exact h1
def jC (x d:Int):List aX->Int->Bool->Bool->List aK->Int×Bool×List aK
 |[],nx,gap,_,out=>(nx,gap,out)
 |s::l,nx,gap,first,out=>
  bif gap || (decide (s.x1<=nx) || decide (s.x0>x+d))then jC x d l nx gap first out
  else bif decide (s.x0>nx)then jC x d l nx true first out
  else bif first then jC x d l s.x1 gap false s.column else jC x d l s.x1 gap false (MN out s.column)
def Ja (l:List aX) (x d:Int):List aK:=
 bif (jC x d l (x - d) false true []).2.1 || decide ((jC x d l (x - d) false true []).1<=x+d)then []else (jC x d l (x - d) false true []).2.2
def XL (x d:Int) (r:Int×Bool×List aK):List aK:=bif r.2.1 || decide (r.1<=x+d)then []else r.2.2
theorem agC (l:List aX) (x d:Int):Ja l x d=XL x d (jC x d l (x - d) false true []):=rfl
theorem Wi (x d:Int):∀ (l:List aX) (nx:Int) (f:Bool) (out:List aK),(jC x d l nx true f out).2.1=true
 |[],_,_,_=>rfl
 |s::l,nx,f,out=>by
  simp only[jC,Bool.true_or,cond_true];exact Wi x d l nx f out
def ZO (l:List aX):Prop:=l.Pairwise (fun s t=>s.x1<=t.x0)∧∀ s∈l,s.x0 < s.x1∧Can (cS s.column)
theorem abR {s:aX} {l:List aX} (h:ZO (s::l)):ZO l:=⟨(pairwise_cons.1 h.1).2,fun t ht=>h.2 t (mem_cons_of_mem _ ht)⟩
def jB (l:List aX) (x:Int):List aC:=eF (l.map tS) x
theorem Wj {s:aX} {l:List aX} {x:Int} (h1:s.x0<=x) (h2:x < s.x1):jB (s::l) x=cS s.column:=by simp[jB,eF,tS,h1,h2]
theorem Dc {s:aX} {l:List aX} {x:Int} (h:x < s.x0∨s.x1<=x):jB (s::l) x=jB l x:=by
 have:(decide (s.x0<=x)&&decide (x < s.x1))=false:=by rw[Bool.and_eq_false_iff];simp;omega
 simp[jB,eF,tS,this]
theorem Fv:∀ {l:List aX} {x:Int},(∀ s∈l,x < s.x0∨s.x1<=x)->jB l x=[]
 |[],_,_=>rfl
 |s::l,x,h=>by
  rw[Dc (h s mem_cons_self)];exact Fv fun t ht=>h t (mem_cons_of_mem _ ht)
theorem Jb (x d:Int):∀ (l:List aX),ZO l->∀ (nx:Int) (first:Bool) (out:List aK),
 (first=true->nx<=x+d)->(first=false->Can (cS out)∧∀ s∈l,nx<=s.x0)->
 Can (cS (XL x d (jC x d l nx false first out)))∧
 ∀ y,inS (cS (XL x d (jC x d l nx false first out))) y=true↔(first=false->inS (cS out) y=true)∧∀ z,nx<=z->z<=x+d->inS (jB l z) y=true
 |[],_,nx,first,out,h1,h2=>by
  have e0:jC x d [] nx false first out=(nx,false,out):=rfl
  rw[e0];have e1:XL x d (nx,false,out)=bif decide (nx<=x+d)then []else out:=by simp[XL]
  rw[e1];by_cases hn:nx<=x+d
  ·have:decide (nx<=x+d)=true:=(by simpa using hn);simp only[this,cond_true];refine⟨zu,fun y=>⟨fun h=>by simp[cS,inS]at h,fun h=>?_⟩⟩;have:=h.2 nx (Int.le_refl _) hn;simp[jB,eF,inS]at this
  ·have:decide (nx<=x+d)=false:=(by simpa using hn);simp only[this,cond_false];cases first with
   |true=>exact absurd (h1 rfl) hn
   |false=>
    refine⟨(h2 rfl).1,fun y=>⟨fun h=>⟨fun _=>h,fun z hz1 hz2=>by omega⟩,fun h=>h.1 rfl⟩⟩
 |s::l,hs,nx,first,out,h1,h2=>by
  have hl:=abR hs;obtain⟨hs0,hsc⟩:=hs.2 s mem_cons_self;have hb:=(pairwise_cons.1 hs.1).1;simp only[jC,Bool.false_or];by_cases c1:s.x1<=nx∨s.x0>x+d
  ·have e:(decide (s.x1<=nx) || decide (s.x0>x+d))=true:=(by simpa using c1);simp only[e,cond_true];obtain⟨g1,g2⟩:=Jb x d l hl nx first out h1 fun hf=>⟨(h2 hf).1,fun t ht=>(h2 hf).2 t (mem_cons_of_mem _ ht)⟩
   refine⟨g1,fun y=>?_⟩;rw[g2];have:∀ z,nx<=z->z<=x+d->jB (s::l) z=jB l z:=fun z hz1 hz2=>Dc (by omega);constructor
   ·rintro⟨a,b⟩;exact⟨a,fun z hz1 hz2=>by rw[this z hz1 hz2];exact b z hz1 hz2⟩
   ·rintro⟨a,b⟩;exact⟨a,fun z hz1 hz2=>by rw[<- this z hz1 hz2];exact b z hz1 hz2⟩
  ·have e:(decide (s.x1<=nx) || decide (s.x0>x+d))=false:=(by rw[Bool.or_eq_false_iff,decide_eq_false_iff_not,decide_eq_false_iff_not];omega);simp only[e,cond_false];by_cases c2:s.x0>nx
   ·have e2:decide (s.x0>nx)=true:=(by simpa using c2);simp only[e2,cond_true];have wn:XL x d (jC x d l nx true first out)=[]:=by
     unfold XL;rw[Wi];rfl
    rw[wn];refine⟨zu,fun y=>⟨fun h=>by simp[cS,inS]at h,fun h=>?_⟩⟩;have:=h.2 nx (Int.le_refl _) (by omega);rw[Fv (fun t ht=>?_)]at this
    ·simp[inS]at this
    ·rcases mem_cons.1 ht with rfl |ht
     ·left;omega
     ·left;have:=hb t ht;omega
   ·have e2:decide (s.x0>nx)=false:=(by simpa using c2);simp only[e2,cond_false]
    have key:∀ out',Can (cS out')->Can (cS (XL x d (jC x d l s.x1 false false out')))∧
     ∀ y,inS (cS (XL x d (jC x d l s.x1 false false out'))) y=true↔inS (cS out') y=true∧∀ z,s.x1<=z->z<=x+d->inS (jB l z) y=true:=by
     intro out' ho;obtain⟨g1,g2⟩:=Jb x d l hl s.x1 false out' (by simp) fun _=>⟨ho,fun t ht=>hb t ht⟩;exact⟨g1,fun y=>by rw[g2];simp⟩
    have split:∀ y,(∀ z,nx<=z->z<=x+d->inS (jB (s::l) z) y=true)↔(inS (cS s.column) y=true∨x+d < nx)∧∀ z,s.x1<=z->z<=x+d->inS (jB l z) y=true:=by
     intro y;constructor
     ·intro h;refine⟨?_,fun z hz1 hz2=>?_⟩
      ·by_cases hn:nx<=x+d
       ·have:=h nx (Int.le_refl _) hn;rw[Wj (by omega) (by omega)]at this;exact .inl this
       ·right;omega
      ·have:=h z (by omega) hz2
       rwa [Dc (by omega)]at this
     ·rintro⟨a,b⟩ z hz1 hz2;by_cases hz:z < s.x1
      ·rw[Wj (by omega) hz];rcases a with a |a
       ·exact a
       ·omega
      ·rw[Dc (by omega)];exact b z (by omega) hz2
    cases first with
    |true=>
     simp only[cond_true];obtain⟨g1,g2⟩:=key s.column hsc;refine⟨g1,fun y=>?_⟩;rw[g2,split];have:=h1 rfl;constructor
     ·rintro⟨a,b⟩;exact⟨by simp,.inl a,b⟩
     ·rintro⟨_,a |a,b⟩
      ·exact⟨a,b⟩
      ·omega
    |false=>
     simp only[cond_false];obtain⟨k1,k2⟩:=h2 rfl;have kn:=k2 s mem_cons_self;obtain⟨g1,g2⟩:=key (MN out s.column) (ZN k1 hsc);refine⟨g1,fun y=>?_⟩;rw[g2,split,agB,and_eq_true];constructor
     ·rintro⟨⟨a,b⟩,c⟩;exact⟨fun _=>a,.inl b,c⟩
     ·rintro⟨a,b |b,c⟩
      ·exact⟨⟨a trivial,b⟩,c⟩
      ·omega
theorem adZ {l:List aX} (h:ZO l) {x d:Int} (hd:0<=d):Can (cS (Ja l x d))∧∀ y,inS (cS (Ja l x d)) y=true↔∀ z,x - d<=z->z<=x+d->inS (jB l z) y=true:=by
 obtain⟨g1,g2⟩:=Jb x d l h (x - d) true [] (fun _=>by omega) (by simp);exact⟨g1,fun y=>by rw[agC,g2];simp⟩
theorem SL {F:List Int} (x d:Int):∀ (l:List aX),(∀ s∈l,I9 F s.column)->∀ (nx:Int) (gap first:Bool) (out:List aK),I9 F out->I9 F (jC x d l nx gap first out).2.2
 |[],_,_,_,_,_,h=>h
 |s::l,hl,nx,gap,first,out,h=>by
  have ih:=SL x d l fun t ht=>hl t (mem_cons_of_mem _ ht);simp only[jC];cases gap || (decide (s.x1<=nx) || decide (s.x0>x+d))with
  |true=>exact ih _ _ _ _ h
  |false=>
   cases decide (s.x0>nx)with
   |true=>exact ih _ _ _ _ h
   |false=>
    cases first with
    |true=>exact ih _ _ _ _ (hl s mem_cons_self)
    |false=>exact ih _ _ _ _ (Wh h (hl s mem_cons_self))
theorem SQ (F:List Int):I9 F []:=⟨zu,by simp⟩
theorem ad1 {F:List Int} {l:List aX} (h:∀ s∈l,I9 F s.column) (x d:Int):I9 F (Ja l x d):=by
 unfold Ja;cases (jC x d l (x - d) false true []).2.1 || decide ((jC x d l (x - d) false true []).1<=x+d)with
 |true=>exact SQ F
 |false=>exact SL x d l h _ _ _ _ (SQ F)
theorem abS {a d:Int} (h1:0<=a∧a<=1048576) (h2:0<=d∧d<=1048576):i64.wrap (a+d)=a+d:=aO (by omega) (by omega)
theorem abT {a d:Int} (h1:0<=a∧a<=1048576) (h2:0<=d∧d<=1048576):i64.wrap (a - d)=a - d:=aO (by omega) (by omega)
theorem abU (d:Int) (out:List aX) (r:aj) (h:∀ c∈out.getLast?,c.x0≠r.x0):fQ d out r=fQ d (out++[⟨r.x0,r.x1,[]⟩]) r:=by
 unfold fQ;cases ho:out.getLast? with
 |none=>
  have:out=[]:=List.getLast?_eq_none_iff.1 ho;subst this;simp
 |some c=>
  have:=h c (by rw[ho];rfl);simp[this]
theorem ZP {d:Int} (hd:0<=d∧d<=1048576) (out:List aX) (x0 x1:Int) (col:List aK) (s:aC) (hs:0<=s.from_∧s.from_ < s.to∧s.to<=1048576):
 fQ d (out++[⟨x0,x1,col⟩]) ⟨x0,s.from_,x1,s.to⟩=out++[⟨x0,x1,col++Bz d [s]⟩]:=by
 have w1:i64.wrap (s.from_+d)=s.from_+d:=abS (by omega) hd;have w2:i64.wrap (s.to - d)=s.to - d:=abT (by omega) hd;unfold fQ Bz;simp only[List.getLast?_append,List.getLast?_singleton,Option.or_some,Option.getD_some,if_true,w1,w2];by_cases h:s.from_+d < s.to - d
 ·simp[h]
 ·simp[h]
theorem ZQ (d:Int) (a b:List aC):Bz d (a++b)=Bz d a++Bz d b:=by simp[Bz]
theorem Wl {d:Int} (hd:0<=d∧d<=1048576) (x0 x1:Int):∀ (c:List aC),(∀ s∈c,0<=s.from_∧s.from_ < s.to∧s.to<=1048576)->∀ (out:List aX) (col:List aK),
 (ay x0 x1 c).foldl (fQ d) (out++[⟨x0,x1,col⟩])=out++[⟨x0,x1,col++Bz d c⟩]
 |[],_,out,col=>by simp[ay,Bz]
 |s::c,h,out,col=>by
  have e:ay x0 x1 (s::c)=⟨x0,s.from_,x1,s.to⟩::ay x0 x1 c:=rfl;rw[e,foldl_cons,ZP hd _ _ _ _ _ (h s mem_cons_self),Wl hd x0 x1 c (fun t ht=>h t (mem_cons_of_mem _ ht))];have:Bz d (s::c)=Bz d [s]++Bz d c:=ZQ d [s] c;rw[this,append_assoc]
def z8 (d:Int) (s:aI):aX:=⟨s.x0,s.x1,Bz d s.column⟩
theorem SS {d:Int} (hd:0<=d∧d<=1048576):∀ (R:List aI),Runs R->(∀ s∈R,∀ q∈s.column,0<=q.from_∧q.from_ < q.to∧q.to<=1048576)->∀ (out:List aX),(∀ c∈out.getLast?,∀ s∈R.head?,c.x0 < s.x0)->
 (fO R).foldl (fQ d) out=out++R.map (z8 d)
 |[],_,_,out,_=>by simp[fO]
 |s::R,h,hb,out,hl=>by
  have hh:=gH h;have e:fO (s::R)=ay s.x0 s.x1 s.column++fO R:=rfl;rw[e,List.foldl_append];have first:(ay s.x0 s.x1 s.column).foldl (fQ d) out=out++[z8 d s]:=by
   cases hc:s.column with
   |nil=>exact absurd hc hh.2
   |cons q c=>
    have e2:ay s.x0 s.x1 (q::c)=⟨s.x0,q.from_,s.x1,q.to⟩::ay s.x0 s.x1 c:=rfl;rw[e2,foldl_cons,abU d out _ (fun c' hc'=>by have:=hl c' hc' s rfl;show c'.x0≠s.x0;omega),<- foldl_cons,<- e2];rw[Wl hd s.x0 s.x1 (q::c) (fun t ht=>hb s mem_cons_self t (by rw[hc];exact ht))];simp[z8,hc]
  rw[first,SS hd R (eZ h) (fun t ht=>hb t (mem_cons_of_mem _ ht)) _ (fun c hc t ht=>?_)]
  ·simp
  ·simp only[List.getLast?_append,List.getLast?_singleton,Option.mem_def]at hc;have hc:z8 d s=c:=(by simpa using hc);subst hc;cases R with
   |nil=>simp at ht
   |cons u R=>
    simp only[List.head?_cons,Option.mem_def,Option.some.injEq]at ht;subst ht;have:=h.2.1;show s.x0 < u.x0;omega
theorem MP {n:Nat} {b:List aK} (x:aK) (hb:b.length<=1000) (hn:1000 < n) (out:List aK) (ho:out.length<=100000000):
 iter (qC b x) n ((0:Int),out)=some (out++(b.filter fun y=>decide (max x.from_ y.from_ < min x.to y.to)).map fun y=>⟨max x.from_ y.from_,min x.to y.to⟩):=by
 have:=bF (l:=b) (step:=qC b x) (fun i (s:List aK)=>((i:Int),s)) (fun y s=>bif decide (max x.from_ y.from_ < min x.to y.to)then s++[⟨max x.from_ y.from_,min x.to y.to⟩]else s) (fun s=>s) (fun i s=>s.length<=100000000+i)
  (fun i hi s hs=>?_) (fun s hs=>by simp[qC]) n (by omega) out (by omega)
 ·rw[show ((0:Nat):Int)=0 from rfl]at this;rw[this];congr 1;have gen:∀ (ys:List aK) (s:List aK),ys.foldl (fun s y=>bif decide (max x.from_ y.from_ < min x.to y.to)then s++[⟨max x.from_ y.from_,min x.to y.to⟩]else s) s=s++(ys.filter fun y=>decide (max x.from_ y.from_ < min x.to y.to)).map fun y=>⟨max x.from_ y.from_,min x.to y.to⟩:=by
   intro ys
   induction ys with
   |nil=>intro s;simp
   |cons y ys ih=>
    intro s;rw[foldl_cons,ih,List.filter_cons];cases decide (max x.from_ y.from_ < min x.to y.to)<;>simp
  exact gen b out
 ·have ap:bG s.length s.length (sub ([(aK.mk (max x.from_ b[i].from_) (min x.to b[i].to))]:List aK) 0 1).length 1 16=true:=bE (n:=1) (by omega) (by simp only[maxLen];omega);simp only[qC,bq hi,cond_true,aZ hi,bind_some,ap,dF,aB,l8];cases decide (max x.from_ b[i].from_ < min x.to b[i].to)with
  |true=>
   refine⟨?_,by simp only[cond_true,length_append,length_singleton];omega⟩;simp only[cond_true];rw[ax (by omega)];rfl
  |false=>
   refine⟨?_,by simp only[cond_false];omega⟩;simp only[cond_false];rw[ax (by omega)]
theorem XM {n:Nat} {a b:List aK} (ha:a.length<=1000) (hb:b.length<=1000) (hn:1000 < n):Gv n a b=some (MN a b):=by
 unfold Gv
 have:=bF (l:=a) (step:=wB n a b) (fun i (s:List aK)=>((i:Int),s)) (fun x s=>s++(b.filter fun y=>decide (max x.from_ y.from_ < min x.to y.to)).map fun y=>⟨max x.from_ y.from_,min x.to y.to⟩) (fun s=>s) (fun i s=>s.length<=1000*i)
  (fun i hi s hs=>?_) (fun s hs=>by simp[wB]) n (by omega) [] (by simp)
 ·rw[show ((0:Nat):Int)=0 from rfl]at this;simp only[length_nil,aB,cond_true,this,bind_some,bB];congr 1;have gen:∀ (xs:List aK) (s:List aK),xs.foldl (fun s x=>s++(b.filter fun y=>decide (max x.from_ y.from_ < min x.to y.to)).map fun y=>⟨max x.from_ y.from_,min x.to y.to⟩) s=s++MN xs b:=by
   intro xs
   induction xs with
   |nil=>intro s;simp[MN]
   |cons x xs ih=>intro s;rw[foldl_cons,ih];simp[MN]
  simpa using gen a []
 ·have hlen:((b.filter fun y=>decide (max (a[i]).from_ y.from_ < min (a[i]).to y.to)).map fun y=>(⟨max (a[i]).from_ y.from_,min (a[i]).to y.to⟩:aK)).length<=1000:=by
   rw[length_map];exact Nat.le_trans (length_filter_le _ _) hb
  simp only[wB,bq hi,cond_true,aZ hi,bind_some,aB];rw[MP _ hb hn s (by omega)];simp only[bind_some,aB,cond_true];refine⟨?_,by rw[length_append];omega⟩;rw[ax (by omega)]
theorem BA {n:Nat} {F:List Int} (hF:F.length<=1000) {x d:Int} (hx: -1048576<=x∧x<=3000000) (hd:0<=d∧d<=1048576) (L:List aX) (hL:∀ s∈L,I9 F s.column) (hn:1000 < n) (hl:L.length<=1000):
 ∀ (m i:Nat) (nx:Int) (gap first:Bool) (out:List aK),i+m=L.length->I9 F out->∀ k,m < k->
   iter (qD n L) k ((i:Int),x,d,nx,gap,first,out)=some (x,d,(jC x d (L.drop i) nx gap first out).1,(jC x d (L.drop i) nx gap first out).2.1,(jC x d (L.drop i) nx gap first out).2.2)
 | 0,i,nx,gap,first,out,hi,ho,k,hk=>by
  obtain⟨k,rfl⟩:∃ j,k=j+1:=⟨k - 1,by omega⟩;have:i=L.length:=by omega
  subst this;refine aY ?_;simp[qD,jC]
 |m+1,i,nx,gap,first,out,hi,ho,k,hk=>by
  obtain⟨k,rfl⟩:∃ j,k=j+1:=⟨k - 1,by omega⟩;have hil:i < L.length:=by omega
  have w:i64.wrap (x+d)=x+d:=aO (by omega) (by omega);have ih:=fun nx gap first out ho=>BA hF hx hd L hL hn hl m (i+1) nx gap first out (by omega) ho k (by omega)
  have hdr:L.drop i=L[i]::L.drop (i+1):=drop_eq_getElem_cons hil;have hc:=hL _ (getElem_mem hil);rw[hdr];simp only[jC]
  have st:qD n L ((i:Int),x,d,nx,gap,first,out)=some (.inl (((i+1:Nat):Int),x,d,
   bif gap || (decide (L[i].x1<=nx) || decide (L[i].x0>x+d))then nx else bif decide (L[i].x0>nx)then nx else L[i].x1,
   bif gap || (decide (L[i].x1<=nx) || decide (L[i].x0>x+d))then gap else bif decide (L[i].x0>nx)then true else gap,
   bif gap || (decide (L[i].x1<=nx) || decide (L[i].x0>x+d))then first else bif decide (L[i].x0>nx)then first else false,
   bif gap || (decide (L[i].x1<=nx) || decide (L[i].x0>x+d))then out else bif decide (L[i].x0>nx)then out else bif first then L[i].column else MN out L[i].column)):=by
   have lo:=SK ho;have lc:=SK hc;simp only[qD,bq hil,cond_true,aZ hil,bind_some,CW,w,l8,XM (n:=n) (a:=out) (b:=L[i].column) (by omega) (by omega) hn,bB,aB,ax (show i < 9223372036854775807 by omega)];cases gap<;>cases decide (L[i].x1<=nx)<;>cases decide (L[i].x0>x+d)<;>cases decide (L[i].x0>nx)<;>cases first<;>rfl
  rw[bW st,ih]
  ·cases gap<;>cases decide (L[i].x1<=nx)<;>cases decide (L[i].x0>x+d)<;>cases decide (L[i].x0>nx)<;>cases first<;>rfl
  ·cases gap || (decide (L[i].x1<=nx) || decide (L[i].x0>x+d))with
   |true=>exact ho
   |false=>
    cases decide (L[i].x0>nx)with
    |true=>exact ho
    |false=>
     cases first with
     |true=>exact hc
     |false=>exact Wh ho hc
theorem XO {n:Nat} {F:List Int} (hF:F.length<=1000) {x d:Int} (hx: -1048576<=x∧x<=3000000) (hd:0<=d∧d<=1048576) (L:List aX) (hL:∀ s∈L,I9 F s.column) (hn:1000 < n) (hl:L.length<=1000):Bo n L x d=some (Ja L x d):=by
 unfold Bo;have w1:i64.wrap (x - d)=x - d:=aO (by omega) (by omega);have w2:i64.wrap (x+d)=x+d:=aO (by omega) (by omega);have:=BA hF hx hd L hL hn hl L.length 0 (x - d) false true [] (by omega) (SQ F) n (by omega);rw[show ((0:Nat):Int)=0 from rfl,List.drop_zero]at this;rw[w1,this];simp only[bind_some,w2,l8,Ja];cases (jC x d L (x - d) false true []).2.1<;>cases decide ((jC x d L (x - d) false true []).1<=x+d)<;>rfl
def dV (d:Int) (a:List aj):List aX:=(Bw (aJ a)).map (z8 d)
def xsL (d:Int) (L:List aX):List Int:=adK (L.flatMap fun s=>[s.x0+d,s.x1+d,s.x0 - d,s.x1 - d])
def jD (d:Int) (L:List aX):List aI:=nO (fun a b=>⟨a,b,cS (Ja L a d)⟩) (xsL d L)
def Df (a:List aj) (d:Int):List aj×Int:=
 if (decide (0<=d)&&(decide (d<=1048576)&&rightL a))=true then (if (aR (jD d (dV d a))).length>200 then ([],6)else (aR (jD d (dV d a)),0))else ([],1)
structure abV (R:List aI):Prop where
 runs:Runs R
 len:R.length<=200
 col:∀ s∈R,Can s.column∧∀ q∈s.column,0<=q.from_∧q.from_ < q.to∧q.to<=1048576
 xs:∀ s∈R,0<=s.x0∧s.x0 < s.x1∧s.x1<=1048576
 froms:(R.flatMap fun s=>s.column.map (·.from_)).length<=200
theorem ZR (R:List aI):(fO R).length=(R.flatMap fun s=>s.column.map (·.from_)).length:=by
 induction R with
 |nil=>rfl
 |cons s R ih=>
  have e:fO (s::R)=ay s.x0 s.x1 s.column++fO R:=rfl;rw[e,length_append,ih,List.flatMap_cons,length_append,aS,length_map]
theorem ZT:∀ {R:List aI},Runs R->R.length<=(fO R).length
 |[],_=>by simp
 |s::R,h=>by
  have hh:=gH h;have e:fO (s::R)=ay s.x0 s.x1 s.column++fO R:=rfl;have:=ZT (eZ h);have:=List.length_pos_iff.2 hh.2;rw[e,length_append,aS,length_cons];omega
theorem Jc {a:List aj} (h:rightL a=true):abV (Bw (aJ a))∧fO (Bw (aJ a))=a∧∀ x,eF (Bw (aJ a)) x=bJ a x:=by
 obtain⟨hv,hl,hw⟩:=bn h;obtain⟨r1,r2⟩:=xW (jX a);rw[uF]at hw;have hc:∀ x,eF (Bw (aJ a)) x=bJ a x:=fun x=>by rw[r2,ow]
 have okr:∀ s∈Bw (aJ a),∀ q∈s.column,OkR ⟨s.x0,q.from_,s.x1,q.to⟩=true:=fun s hs q hq=>hv _ (by rw[<- hw];exact OA.2 ⟨s,hs,q,hq,rfl⟩);refine⟨⟨r1,?_,fun s hs=>⟨?_,fun q hq=>?_⟩,fun s hs=>?_,?_⟩,hw,hc⟩
 ·have:=ZT r1;rw[hw]at this;omega
 ·obtain⟨m1,m2⟩:=uG r1 s hs;have:=m2 s.x0 (Int.le_refl _) m1;rw[hc]at this;rw[<- this];exact (dX hv s.x0).1
 ·have:=okr s hs q hq;simp only[OkR,and_eq_true,decide_eq_true_eq]at this;omega
 ·obtain⟨m1,m2⟩:=uG r1 s hs;have hne:s.column≠[]:=by
   intro e;have:=m2 s.x0 (Int.le_refl _) m1;have h3:∃ i,∃ hi:i < (Bw (aJ a)).length,(Bw (aJ a))[i]=s:=mem_iff_getElem.1 hs;have:∀ {R:List aI},Runs R->∀ s∈R,s.column≠[]:=by
    intro R
    induction R with
    |nil=>intro _ s hs;simp at hs
    |cons t R ih=>
     intro hR s hs;rcases mem_cons.1 hs with rfl |hs
     ·exact (gH hR).2
     ·exact ih (eZ hR) s hs
   exact this r1 s hs e
  obtain⟨q,hq⟩:=List.exists_mem_of_ne_nil _ hne;have:=okr s hs q hq;simp only[OkR,and_eq_true,decide_eq_true_eq]at this;omega
 ·rw[<- ZR,hw];exact hl
theorem MQ:∀ {R:List aI},Runs R->R.Pairwise (fun s t=>s.x1<=t.x0)
 |[],_=>List.Pairwise.nil
 |[s],_=>by simp
 |s::t::R,h=>by
  have ih:=MQ (eZ h);refine pairwise_cons.2 ⟨fun u hu=>?_,ih⟩;rcases mem_cons.1 hu with rfl |hu
  ·exact h.2.1
  ·have:=(pairwise_cons.1 ih).1 u hu;have:=(gH (eZ h)).1;have:=h.2.1;omega
theorem afz {R:List aI} (h:abV R) {d:Int} (hd:0<=d):ZO (R.map (z8 d)):=by
 refine⟨?_,fun s hs=>?_⟩
 ·rw[List.pairwise_map];exact MQ h.runs
 ·obtain⟨t,ht,rfl⟩:=mem_map.1 hs;exact⟨(h.xs t ht).2.1,ZM hd (h.col t ht).1⟩
theorem abW {R:List aI} (h:abV R) {d:Int} (hd:0<=d):∀ s∈R.map (z8 d),I9 ((R.flatMap fun s=>s.column.map (·.from_)).map (· +d)) s.column:=by
 intro s hs;obtain⟨t,ht,rfl⟩:=mem_map.1 hs;refine⟨ZM hd (h.col t ht).1,fun q hq=>?_⟩;simp only[z8,Bz,mem_map,mem_filter]at hq;obtain⟨p,⟨hp,_⟩,rfl⟩:=hq;exact mem_map.2 ⟨p.from_,mem_flatMap.2 ⟨t,ht,mem_map.2 ⟨p,hp,rfl⟩⟩,rfl⟩
theorem OE (d:Int):∀ (R:List aI) (x:Int),jB (R.map (z8 d)) x=cS (Bz d (eF R x))
 |[],x=>rfl
 |s::R,x=>by
  have ih:=OE d R x;simp only[jB,map_cons,eF,tS,z8]at*;cases decide (s.x0<=x)&&decide (x < s.x1)with
  |true=>rfl
  |false=>exact ih
theorem ahB {a b:List aK} (h:cS a=cS b):a=b:=by
 induction a generalizing b with
 |nil=>cases b with
  |nil=>rfl
  |cons y b=>simp[cS]at h
 |cons x a ih=>cases b with
  |nil=>simp[cS]at h
  |cons y b=>
   simp only[cS,map_cons,List.cons.injEq]at h;obtain⟨h1,h2⟩:=h;rw[ih h2];obtain⟨x1,x2⟩:=x;obtain⟨y1,y2⟩:=y;simp only[unq,aC.mk.injEq]at h1;rw[h1.1,h1.2]
theorem Jd (a:List aK):(cS a).length=a.length:=by simp[cS]
theorem KS {n:Nat} {a b:List aK} (hl:a.length < 1099511627776) (hn:a.length < n):qE n a b=some (decide (a=b)):=by
 have e:qE n a b=Ke n (fun x1 x2:aK=>!((x1.from_==(x2.from_:Int))&&((x1.to==(x2.to:Int))&&true))) a b:=by kernel_rfl
 rw[e];refine EO (fun x y=>?_) hl hn;obtain⟨x1,x2⟩:=x;obtain⟨y1,y2⟩:=y;rw[Bool.eq_iff_iff];simp
theorem MR {n:Nat} {d:Int} (hd:0<=d∧d<=1048576) {L:List aX} (hx:∀ s∈L,0<=s.x0∧s.x0 < s.x1∧s.x1<=1048576) (hl:L.length<=1000) (hn:1000 < n):
 iter (qF d L) n ((0:Int),([]:List Int))=some (L.flatMap fun s=>[s.x0+d,s.x1+d,s.x0 - d,s.x1 - d]):=by
 have:=bF (l:=L) (step:=qF d L) (fun i (s:List Int)=>((i:Int),s)) (fun r s=>s++[i64.wrap (r.x0+d),i64.wrap (r.x1+d),i64.wrap (r.x0 - d),i64.wrap (r.x1 - d)]) (fun s=>s) (fun i s=>s.length<=4*i)
  (fun i hi s hs=>?_) (fun s hs=>by simp[qF]) n (by omega) [] (Nat.le_refl _)
 ·rw[show ((0:Nat):Int)=0 from rfl]at this;rw[this];have gen:∀ (ys:List aX),(∀ s∈ys,0<=s.x0∧s.x0 < s.x1∧s.x1<=1048576)->∀ (s:List Int),ys.foldl (fun s r=>s++[i64.wrap (r.x0+d),i64.wrap (r.x1+d),i64.wrap (r.x0 - d),i64.wrap (r.x1 - d)]) s=s++ys.flatMap fun s=>[s.x0+d,s.x1+d,s.x0 - d,s.x1 - d]:=by
   intro ys
   induction ys with
   |nil=>intro _ s;simp
   |cons y ys ih=>
    intro hy s;have h0:=hy y mem_cons_self;rw[foldl_cons,ih (fun t ht=>hy t (mem_cons_of_mem _ ht)),abS (by omega) hd,abS (by omega) hd,abT (by omega) hd,abT (by omega) hd];simp
  congr 1;simpa using gen L hx []
 ·have ap:bG s.length s.length (sub ([(i64.wrap (L[i].x0+d)),(i64.wrap (L[i].x1+d)),(i64.wrap (L[i].x0 - d)),(i64.wrap (L[i].x1 - d))]:List Int) 0 4).length 4 8=true:=bE (n:=4) (by omega) (by simp only[maxLen];omega);simp only[qF,bB,bq hi,cond_true,aZ hi,bind_some,ap,dF,aB];refine⟨?_,by simp;omega⟩;rw[ax (by omega)];rfl
theorem MS {n:Nat} (es:List Int) (i:Nat) (hi:i+1 < es.length) (he:es.length < 1099511627776) (pre:List aj) (x' x1:Int) (c:List aC) (hl:pre.length+c.length < 1099511627776) (hn:c.length < n):
 iter (qG ((),es) ((i+1:Nat):Int) (pre++ay x' x1 c)) n (((pre.length:Nat):Int),pre++ay x' x1 c)=some (pre++ay x' es[i+1] c):=by
 have:=eO (step:=qG ((),es) ((i+1:Nat):Int) (pre++ay x' x1 c)) (fun j=>(((pre.length+j:Nat):Int),pre++(ay x' es[i+1] (c.take j)++ay x' x1 (c.drop j)))) c.length (pre++ay x' es[i+1] c) (fun j hj=>?_) ?_ n hn
 ·simpa[ay]using this
 ·have lt:(pre++ay x' x1 c).length=pre.length+c.length:=by rw[length_append,aS]
  have d:decide (((pre.length+j:Nat):Int) < (((pre++ay x' x1 c).length:Nat):Int))=true:=by rw[lt];simp;omega
  have ib:inb ((pre.length+j:Nat):Int) (pre++ay x' x1 c).length=true:=bD (by rw[lt];omega);have tl:(ay x' es[i+1] (c.take j)).length=j:=by rw[aS,length_take];omega
  have dr:c.drop j=c[j]::c.drop (j+1):=drop_eq_getElem_cons hj;have e1:ay x' x1 (c.drop j)=⟨x',c[j].from_,x1,c[j].to⟩::ay x' x1 (c.drop (j+1)):=by rw[dr];rfl
  have g:at? (pre++(ay x' es[i+1] (c.take j)++ay x' x1 (c.drop j))) (((0:Nat):Int)+((pre.length+j:Nat):Int))=some ⟨x',c[j].from_,x1,c[j].to⟩:=by
   rw[qi,List.getElem?_append_right (by omega),List.getElem?_append_right (by omega),tl,e1];simp
  have z:(((0:Nat):Int)+((pre.length+j:Nat):Int)).toNat=pre.length+j:=by omega
  have sn:ay x' es[i+1] (c.take j++[c[j]])=ay x' es[i+1] (c.take j)++[aj.mk x' c[j].from_ es[i+1] c[j].to]:=by unfold ay;rw[map_append];rfl
  have st:(pre++(ay x' es[i+1] (c.take j)++ay x' x1 (c.drop j))).set (pre.length+j) (aj.mk x' c[j].from_ es[i+1] c[j].to)=pre++(ay x' es[i+1] (c.take (j+1))++ay x' x1 (c.drop (j+1))):=by
   rw[List.set_append_right _ _ (by omega),List.set_append_right _ _ (by omega),tl,e1,take_succ_eq_append_getElem hj,sn,Nat.add_sub_cancel_left,Nat.sub_self,List.set_cons_zero,append_assoc];rfl
  simp only[qG,d,cond_true,bB,aZ hi,bind_some,ib,g,z,st];rw[ax (by omega)];rfl
 ·have lt:(pre++ay x' x1 c).length=pre.length+c.length:=by rw[length_append,aS]
  have d:decide (((pre.length+c.length:Nat):Int) < (((pre++ay x' x1 c).length:Nat):Int))=false:=by rw[lt];simp
  simp only[qG,d,cond_false,List.take_length,List.drop_length];simp[ay]
theorem MU {n:Nat} (es:List Int) (i:Nat) (hi:i+1 < es.length) (he:es.length < 1099511627776) (out:List aj) (c:List aK) (hl:out.length+c.length < 1099511627) (hn:c.length < n):
 iter (qH ((),es) ((i+1:Nat):Int) c) n ((0:Int),out)=some (out++ay (es[i]'(by omega)) es[i+1] (cS c)):=by
 have:=bF (l:=c) (step:=qH ((),es) ((i+1:Nat):Int) c) (fun j (s:List aj)=>((j:Int),s)) (fun q s=>s++[⟨es[i]'(by omega),q.from_,es[i+1],q.to⟩]) (fun s=>s) (fun j s=>s.length<=out.length+j)
  (fun j hj s hs=>?_) (fun s hs=>by simp[qH]) n hn out (Nat.le_refl _)
 ·rw[show ((0:Nat):Int)=0 from rfl]at this;rw[this];have gen:∀ (ys:List aK) (s:List aj),ys.foldl (fun s q=>s++[⟨es[i]'(by omega),q.from_,es[i+1],q.to⟩]) s=s++ay (es[i]'(by omega)) es[i+1] (cS ys):=by
   intro ys
   induction ys with
   |nil=>intro s;simp[ay,cS]
   |cons y ys ih=>intro s;rw[foldl_cons,ih];simp[ay,cS,unq]
  rw[gen]
 ·have w:i64.wrap (((i+1:Nat):Int) - 1)=((i:Nat):Int):=by rw[iQ (by omega) (by omega)];rfl
  have ap:bG s.length s.length (sub ([(aj.mk (es[i]'(by omega)) (c[j]).from_ es[i+1] (c[j]).to)]:List aj) 0 1).length 1 32=true:=bE (n:=1) (by omega) (by simp only[maxLen];omega);simp only[qH,bq hj,cond_true,aZ hj,bind_some,w,bB,aZ hi,aZ (show i < es.length by omega),ap,dF,aB];refine⟨?_,by simp;omega⟩;rw[ax (by omega)];rfl
theorem KT {d:Int} {L:List aX} {z:Int}:z∈xsL d L↔∃ s∈L,z=s.x0+d∨z=s.x1+d∨z=s.x0 - d∨z=s.x1 - d:=by
 rw[xsL,Zw,mem_flatMap];simp
theorem KU (d:Int) (L:List aX):(L.flatMap fun s=>[s.x0+d,s.x1+d,s.x0 - d,s.x1 - d]).length=4*L.length:=by
 induction L with
 |nil=>rfl
 |cons s L ih=>rw[List.flatMap_cons,length_append,ih];simp;omega
theorem agD (d:Int) (L:List aX):(xsL d L).length<=4*L.length:=by
 have h:=oM (iY ltI (L.flatMap fun s=>[s.x0+d,s.x1+d,s.x0 - d,s.x1 - d]));rw[bL,KU]at h;exact h
def zy (d:Int) (L:List aX) (es:List Int) (i:Nat):List aK:=Ja L (es.getD i 0) d
def Qm (d:Int) (L:List aX) (es:List Int) (S:List aI) (i:Nat):List aK×Int×Int×List aj:=
 (if i=0 then []else zy d L es (i - 1),(((aR (S.take i)).length - (if i=0 then 0 else (zy d L es (i - 1)).length):Nat):Int),((i+1:Nat):Int),aR (S.take i))
theorem MV {n:Nat} {d:Int} (hd:0<=d∧d<=1048576) {L:List aX} (hx:∀ s∈L,0<=s.x0∧s.x0 < s.x1∧s.x1<=1048576) {F:List Int} (hF:F.length<=200) (hc:∀ s∈L,I9 F s.column) (hl:L.length<=200) (hn:1000 < n):
 iter (mX n d L ((),xsL d L)) n (([]:List aK),(0:Int),(1:Int),([]:List aj))=some (aR (jD d L)):=by
 have he:=agD d L;obtain⟨p1,p2⟩:=pq (fun a b=>(⟨a,b,cS (Ja L a d)⟩:aI)) (xsL d L);have hS:(jD d L).length=(xsL d L).length - 1:=p1;have wl:∀ x,(Ja L x d).length<=200:=fun x=>by have:=SK (ad1 hc x d);omega
 have xr:∀ z∈xsL d L,-1048576<=z∧z<=3000000:=by
  intro z hz;obtain⟨s,hs,h⟩:=KT.1 hz;have:=hx s hs;omega
 have sc:∀ s∈jD d L,s.column.length<=200:=by
  intro s hs;obtain⟨i,hi,rfl⟩:=mem_iff_getElem.1 hs;have:=p2 i (by omega) hi;unfold jD;rw[this,Jd];exact wl _
 have bl:∀ i,(aR ((jD d L).take i)).length<=800*200:=by
  intro i;have h1:=H7 ((jD d L).take i) 200 fun s hs=>sc s (List.mem_of_mem_take hs);have h2:((jD d L).take i).length<=800:=by rw[length_take];omega
  exact Nat.le_trans h1 (Nat.mul_le_mul_right _ h2)
 by_cases hE:(xsL d L).length=0
 ·
  have s0:jD d L=[]:=List.length_eq_zero_iff.1 (by omega);have x0:xsL d L=[]:=List.length_eq_zero_iff.1 hE;obtain⟨n,rfl⟩:∃ m,n=m+1:=⟨n - 1,by omega⟩;refine aY ?_;rw[s0,x0];simp[mX,aR,sub]
 have main:=eO (step:=mX n d L ((),xsL d L)) (Qm d L (xsL d L) (jD d L)) (jD d L).length (aR (jD d L)) (fun i hi=>?_) ?_ n (by omega)
 ·simpa[Qm,aR]using main
 ·have hi2:i+1 < (xsL d L).length:=by omega
  have hi1:i < (xsL d L).length:=by omega
  have gD:(xsL d L).getD i 0=(xsL d L)[i]:=by simp[hi1]
  have hs:(jD d L)[i]=⟨(xsL d L)[i],(xsL d L)[i+1],cS (zy d L (xsL d L) i)⟩:=by
   unfold zy;rw[gD];exact p2 i hi2 hi
  have w:i64.wrap (((i+1:Nat):Int) - 1)=((i:Nat):Int):=by rw[iQ (by omega) (by omega)];rfl
  have wn:Bo n L (xsL d L)[i] d=some (zy d L (xsL d L) i):=by
   unfold zy;rw[gD];exact XO (F:=F) (by omega) (xr _ (getElem_mem hi1)) hd L hc hn (by omega)
  have wi:(zy d L (xsL d L) i).length<=200:=wl _;have tk:(jD d L).take (i+1)=(jD d L).take i++[(⟨(xsL d L)[i],(xsL d L)[i+1],cS (zy d L (xsL d L) i)⟩:aI)]:=by rw[take_succ_eq_append_getElem hi,hs]
  have bi:=bl i;have w2:i64.wrap (((i+1:Nat):Int)+1)=((i+1+1:Nat):Int):=ax (by omega);have d1:decide (((i+1:Nat):Int) < ((((xsL d L)).length:Nat):Int))=true:=bq hi2;have s4:=MU (n:=n) (xsL d L) i hi2 (by omega) (aR ((jD d L).take i)) (zy d L (xsL d L) i) (by omega) (by omega);unfold Qm;simp only[mX,bB,d1,cond_true,w,aZ hi1,bind_some,wn,w2,aB,s4];generalize hW:zy d L (xsL d L) i=W at*;by_cases h0:i=0
  ·have g1:decide (((i+1:Nat):Int)>1)=false:=(by rw[decide_eq_false_iff_not];omega);have tz:List.take i (jD d L)=[]:=(by rw[h0];rfl);have wz:aR (List.take i (jD d L))=[]:=(by rw[tz];rfl);have w1:aR (List.take (i+1) (jD d L))=ay (xsL d L)[i] (xsL d L)[i+1] (cS W):=(by rw[tk,tz];rfl);simp only[g1,cond_false,bind_some,wz,nil_append,w1,aB,cond_true,hW,Nat.add_sub_cancel,Nat.add_one_ne_zero,if_false,aS,Jd,Nat.sub_self,length_nil]
  ·have g1:decide (((i+1:Nat):Int)>1)=true:=(by simp;omega);simp only[g1,cond_true,if_neg h0,Nat.add_one_ne_zero,if_false,Nat.add_sub_cancel,hW];have hi0:i - 1 < (jD d L).length:=(by omega);have hq:=p2 (i - 1) (by omega) hi0;have gD0:(xsL d L).getD (i - 1) 0=(xsL d L)[i - 1]:=(by simp[show i - 1 < (xsL d L).length by omega]);have e0:(jD d L).take i=(jD d L).take (i - 1)++[(⟨(xsL d L)[i - 1],(xsL d L)[i - 1+1],cS (zy d L (xsL d L) (i - 1))⟩:aI)]:=by
    have:=take_succ_eq_append_getElem hi0;rw[show i - 1+1=i by omega]at this;rw[this];congr 2;unfold zy;rw[gD0];exact hq
   have wm:(zy d L (xsL d L) (i - 1)).length<=200:=wl _;generalize zy d L (xsL d L) (i - 1)=V at*;generalize (jD d L).take (i - 1)=S at e0;have tk2:(jD d L).take (i+1)=S++[(⟨(xsL d L)[i - 1],(xsL d L)[i - 1+1],cS V⟩:aI),(⟨(xsL d L)[i],(xsL d L)[i+1],cS W⟩:aI)]:=(by rw[tk,e0,append_assoc];rfl);rw[KS (by omega) (by omega)];simp only[bind_some];by_cases hWV:W=V
   ·subst hWV;obtain⟨pre,x',w3,w4⟩:=OC ⟨(xsL d L)[i],(xsL d L)[i+1],cS W⟩ ⟨(xsL d L)[i - 1],(xsL d L)[i - 1+1],cS W⟩ rfl S;have ww:aR ((jD d L).take i)=pre++ay x' (xsL d L)[i - 1+1] (cS W):=(by rw[e0,w3]);have ww2:aR ((jD d L).take (i+1))=pre++ay x' (xsL d L)[i+1] (cS W):=(by rw[tk2,w4]);have lp:(aR ((jD d L).take i)).length=pre.length+W.length:=(by rw[ww,length_append,aS,Jd]);have lp2:(aR ((jD d L).take (i+1))).length=pre.length+W.length:=(by rw[ww2,length_append,aS,Jd]);cases hz:decide (((W.length:Nat):Int)>0)with
    |true=>
     have s3:=MS (n:=n) (xsL d L) i hi2 (by omega) pre x' (xsL d L)[i - 1+1] (cS W) (by rw[Jd];omega) (by rw[Jd];omega);have pl:(aR ((jD d L).take i)).length - W.length=pre.length:=(by omega);have pl2:(aR ((jD d L).take (i+1))).length - W.length=pre.length:=(by omega);simp only[cond_true,bind_some,decide_true,pl,pl2];rw[ww,s3,ww2];simp only[bind_some];have le:eqL (pre++ay x' (xsL d L)[i - 1+1] (cS W)).length (pre++ay x' (xsL d L)[i+1] (cS W)).length=true:=(by apply abA;rw[length_append,length_append,aS,aS]);simp only[le,cond_true,bind_some,aB]
    |false=>
     have hw0:W=[]:=List.length_eq_zero_iff.1 (by rw[decide_eq_false_iff_not]at hz;omega);subst hw0;have r0:∀ a b,ay a b (cS [])=[]:=fun _ _=>rfl;simp only[cond_false,bind_some,r0,append_nil,aB,cond_true]at*;rw[ww2,<- ww];simp
   ·have dn:decide (W=V)=false:=(by simpa using hWV);have wne:(⟨(xsL d L)[i],(xsL d L)[i+1],cS W⟩:aI).column≠(⟨(xsL d L)[i - 1],(xsL d L)[i - 1+1],cS V⟩:aI).column:=fun e=>hWV (ahB e);have ww2:aR ((jD d L).take (i+1))=aR ((jD d L).take i)++ay (xsL d L)[i] (xsL d L)[i+1] (cS W):=by
     rw[tk2,e0];exact SH _ _ wne S
    have e1:(bif decide (((W.length:Nat):Int)>0)then some (decide (W=V))else some false:Option Bool)=some false:=(by rw[dn];cases decide (((W.length:Nat):Int)>0)<;>rfl);rw[e1];simp only[bind_some,cond_false,aB,cond_true,ww2,length_append,aS,Jd,Nat.add_sub_cancel]
 ·have d1:decide ((((jD d L).length+1:Nat):Int) < ((((xsL d L)).length:Nat):Int))=false:=by rw[decide_eq_false_iff_not];omega
  unfold Qm;simp only[mX,bB,d1,cond_false,aB,cond_true,List.take_length]
theorem XP {n:Nat} {a:List aj} {d:Int} (ha:a.length<=900) (hn:10000<=n):Gw n a d=some (Df a d):=by
 unfold Gw Sq;rw[jl (by omega) (by omega) (by omega)];simp only[bind_some,IY,Df];by_cases hv:(decide (0<=d)&&(decide (d<=1048576)&&rightL a))=true
 ·have hv':(decide (d>=0)&&(decide (d<=1048576)&&rightL a))=true:=hv;rw[hv'];simp only[hv,if_true,Bool.not_true,cond_false];simp only[and_eq_true,decide_eq_true_eq]at hv;obtain⟨h0,h1,hr⟩:=hv;obtain⟨rok,hro,_⟩:=Jc hr;have hsl:Fa a d=some (dV d a):=by
   unfold Fa;rw[if_pos (by omega)];congr 1;have:=SS (d:=d) ⟨h0,h1⟩ (Bw (aJ a)) rok.runs (fun s hs=>(rok.col s hs).2) [] (by simp);rw[hro]at this;rw[this];rfl
  have hx:∀ s∈dV d a,0<=s.x0∧s.x0 < s.x1∧s.x1<=1048576:=by
   intro s hs;obtain⟨t,ht,rfl⟩:=mem_map.1 hs;exact rok.xs t ht
  have hl:(dV d a).length<=200:=by unfold dV;rw[length_map];exact rok.len
  have s1:=MR (n:=n) (d:=d) ⟨h0,h1⟩ hx (by omega) (by omega);have l4:=KU d (dV d a);have s2:=MV (n:=n) (d:=d) ⟨h0,h1⟩ hx (F:=((Bw (aJ a)).flatMap fun s=>s.column.map (·.from_)).map (· +d)) (by rw[length_map];exact rok.froms) (abW rok h0) hl (by omega);simp only[hsl,bind_some,bB,aB,cond_true,length_nil,s1];rw[l5 (by omega) (by omega)];simp only[bind_some,bL,aB,cond_true];rw[lJ (by rw[bL];omega) (by rw[bL];omega)];simp only[bind_some,bB,aB,cond_true];have hE:dU (iY ltI ((dV d a).flatMap fun s=>[s.x0+d,s.x1+d,s.x0 - d,s.x1 - d]))=xsL d (dV d a):=rfl;rw[hE,s2];simp only[bind_some];by_cases h200:(aR (jD d (dV d a))).length>200
  ·have:decide ((((aR (jD d (dV d a))).length:Nat):Int)>200)=true:=(by simp;omega);rw[this,if_pos h200];rfl
  ·have:decide ((((aR (jD d (dV d a))).length:Nat):Int)>200)=false:=(by simp;omega);rw[this,if_neg h200];rfl
 ·have hv':(decide (d>=0)&&(decide (d<=1048576)&&rightL a))=false:=by simpa using hv
  rw[hv'];simp only[hv,if_false,Bool.not_false,cond_true];rfl
theorem agE {a:List aj} {d:Int} (h0:0<=d) (hr:rightL a=true):pu (jD d (dV d a))∧∀ x,Can (eF (jD d (dV d a)) x)∧∀ y,inS (eF (jD d (dV d a)) x) y=true↔∀ u v,x - d<=u->u<=x+d->y - d<=v->v<=y+d->bf a u v=true:=by
 obtain⟨rok,hro,hcol⟩:=Jc hr;have hv:=(bn hr).1;have hS:=afz rok h0;have xs:=Oq ((dV d a).flatMap fun s=>[s.x0+d,s.x1+d,s.x0 - d,s.x1 - d]);have sat:∀ z,jB (dV d a) z=cS (Bz d (bJ a z)):=fun z=>by unfold dV;rw[OE,hcol]
 have win:∀ x,Can (cS (Ja (dV d a) x d))∧∀ y,inS (cS (Ja (dV d a) x d)) y=true↔∀ z,x - d<=z->z<=x+d->inS (jB (dV d a) z) y=true:=fun x=>adZ hS h0;refine⟨C9 _ _ xs,fun x=>?_⟩;have e:eF (jD d (dV d a)) x=cS (Ja (dV d a) x d):=by
  have slabIn:∀ z y,inS (jB (dV d a) z) y=true->∃ s∈dV d a,s.x0<=z∧z < s.x1:=by
   intro z y hz;by_cases hx:∃ s∈dV d a,s.x0<=z∧z < s.x1
   ·exact hx
   ·rw[Fv (fun s hs=>by
     by_cases h1:z < s.x0
     ·exact .inl h1
     ·right;by_cases h2:z < s.x1
      ·exact absurd ⟨s,hs,by omega,h2⟩ hx
      ·omega)]at hz
    simp[inS]at hz
  have slabEq:∀ s∈dV d a,∀ z,s.x0<=z->z < s.x1->jB (dV d a) z=jB (dV d a) s.x0:=by
   intro s hs z h1 h2;rw[sat,sat];obtain⟨t,ht,rfl⟩:=mem_map.1 hs;obtain⟨m1,m2⟩:=uG rok.runs t ht;rw[<- hcol,<- hcol,m2 z h1 h2];exact (congrArg (fun c=>cS (Bz d c)) (m2 t.x0 (Int.le_refl _) m1)).symm
  refine Oz (fun x=>cS (Ja (dV d a) x d)) (xsL d (dV d a)) xs x (fun e he hex hc=>?_) (fun hall=>?_) (fun hall=>?_)
  ·refine l7 (win e).1 (win x).1 fun y=>?_;rw[Bool.eq_iff_iff,(win e).2,(win x).2];constructor
   ·intro h z hz1 hz2;by_cases hz:z<=e+d
    ·exact h z (by omega) hz
    ·have hE:=h (e+d) (by omega) (Int.le_refl _);obtain⟨s,hs,g1,g2⟩:=slabIn _ _ hE;have:=hc (s.x1 - d) (KT.2 ⟨s,hs,.inr (.inr (.inr rfl))⟩);rw[slabEq s hs z (by omega) (by omega),<- slabEq s hs (e+d) g1 g2];exact hE
   ·intro h z hz1 hz2;by_cases hz:x - d<=z
    ·exact h z hz (by omega)
    ·have hE:=h (x - d) (Int.le_refl _) (by omega);obtain⟨s,hs,g1,g2⟩:=slabIn _ _ hE;have:=hc (s.x0+d) (KT.2 ⟨s,hs,.inl rfl⟩);rw[slabEq s hs z (by omega) (by omega),<- slabEq s hs (x - d) g1 g2];exact hE
  ·refine l7 (win x).1 zu fun y=>?_;rw[Bool.eq_iff_iff,(win x).2];constructor
   ·intro h;obtain⟨s,hs,g1,g2⟩:=slabIn _ _ (h (x - d) (Int.le_refl _) (by omega));have:=hall (s.x1+d) (KT.2 ⟨s,hs,.inr (.inl rfl)⟩);omega
   ·intro h;simp[inS]at h
  ·refine l7 (win x).1 zu fun y=>?_;rw[Bool.eq_iff_iff,(win x).2];constructor
   ·intro h;obtain⟨s,hs,g1,g2⟩:=slabIn _ _ (h (x+d) (by omega) (Int.le_refl _));have:=hall (s.x0 - d) (KT.2 ⟨s,hs,.inr (.inr (.inl rfl))⟩);omega
   ·intro h;simp[inS]at h
 rw[e];refine⟨(win x).1,fun y=>?_⟩;rw[(win x).2];constructor
 ·intro h u v h1 h2 h3 h4;have:=h u h1 h2;rw[sat,ac2 h0 (dX hv u).1]at this;rw[<- (dX hv u).2];exact this v h3 h4
 ·intro h z h1 h2;rw[sat,ac2 h0 (dX hv z).1];intro v h3 h4;rw[(dX hv z).2];exact h z v h1 h2 h3 h4
theorem ZU {a r:List aj} {d:Int} (h:Df a d=(r,0)):rightL a=true∧0<=d∧rightL r=true∧∀ x y,bf r x y=true↔∀ u v,x - d<=u->u<=x+d->y - d<=v->v<=y+d->bf a u v=true:=by
 unfold Df at h;by_cases hv:(decide (0<=d)&&(decide (d<=1048576)&&rightL a))=true
 ·rw[if_pos hv]at h;simp only[and_eq_true,decide_eq_true_eq]at hv;obtain⟨h0,h1,hr⟩:=hv;by_cases h200:(aR (jD d (dV d a))).length>200
  ·rw[if_pos h200]at h;simp at h
  ·rw[if_neg h200]at h;simp only[Prod.mk.injEq,and_true]at h;subst h;obtain⟨q1,q2⟩:=agE h0 hr;have hv:=(bn hr).1;refine⟨hr,h0,KP q1 (fun x=>(q2 x).1) (fun x y hxy=>?_) (by omega),fun x y=>?_⟩
   ·have:=((q2 x).2 y).1 hxy x y (by omega) (by omega) (by omega) (by omega);exact Da hv this
   ·rw[KM q1];exact (q2 x).2 y
 ·rw[if_neg hv]at h;simp at h
theorem abX (p:Nat->Bool) (N:Nat):(kS p (List.range N)=none->(List.range N).any p=false)∧(∀ i,kS p (List.range N)=some i->(List.range N).any p=true):=by
 refine⟨fun h=>?_,fun i h=>?_⟩
 ·rw[<- mH,h];rfl
 ·rw[<- mH,h];rfl
theorem Fw {W O:Type} {step:Int->Option (Int ⊕ (W ⊕ O))} (N:Nat) (p:Nat->Bool) (w:W) (o:O)
 (h:∀ i,i < N->step (i:Int)=some (bif p i then .inr (.inr o)else .inl ((i+1:Nat):Int)))
 (hend:step (N:Int)=some (.inr (.inl w))) (n:Nat) (hn:N < n):iter step n (0:Int)=some (bif (List.range N).any p then .inr o else .inl w):=by
 have:=jG (l:=List.range N) (step:=step) (fun i=>((i:Nat):Int)) p w (fun _=>o) (fun i hi=>by
  rw[List.length_range]at hi;rw[List.getElem_range];exact h i hi) (by rw[List.length_range];exact hend) n (by rw[List.length_range];exact hn)
 rw[show ((0:Nat):Int)=0 from rfl]at this;rw[this];obtain⟨r1,r2⟩:=abX p N;cases hf:kS p (List.range N)with
 |none=>rw[r1 hf];rfl
 |some i=>rw[r2 i hf];rfl
theorem Fx {n:Nat} {p:List bM} (hl:p.length<=1000) (hn:2000<=n):iter (mM n p (dQ p)) n (0:Int)=some (bif (List.range p.length).any (afu p)then .inr false else .inl ()):=by
 refine Fw p.length (afu p) () false (fun i hi=>?_) ?_ n (by omega)
 ·have nz:(((p.length:Nat):Int) != 0)=true:=by simp;intro h;rw[h]at hi;simp at hi
  have md:(i+1)%p.length < p.length:=Nat.mod_lt _ (by omega);have w:i64.wrap ((i:Int)+1)=((i+1:Nat):Int):=ax (by omega);have g1:at? (dQ p) (((0:Nat):Int)+((i:Nat):Int))=some (fV p i):=by rw[bV (by rw[bU];exact hi),xV]
  have g2:at? (dQ p) (((0:Nat):Int)+(((i+1)%p.length:Nat):Int))=some (fV p ((i+1)%p.length)):=by rw[bV (by rw[bU];exact md),xV]
  obtain⟨r,hr1,hr2⟩:=I4 (n:=n) (ptA p 0) (ptA p i) (by omega);have g3:at? p 0=some (ptA p 0):=by rw[ags (by omega),<- Qi]
  have g4:at? p ((i:Nat):Int)=some (ptA p i):=by rw[aZ hi,<- Qi]
  have dz:decide (((i:Nat):Int)>0)=decide (0 < i):=by rw[Bool.eq_iff_iff];simp
  have pt:bM.mk (fV p i).a_x (fV p i).a_y=ptA p i:=rfl;simp only[mM,bU,bq hi,cond_true,bD hi,g1,g2,bind_some,nz,w,V5,bD md,pt,KJ,jW,l8,g3,g4,hr1,hr2,dz,Option.map_some];unfold afu;generalize Qj (ptA p i)=b1;generalize (((fV p i).a_x==(fV p i).b_x)==((fV p i).a_y==(fV p i).b_y))=b2;generalize (upP (fV p i)==upP (fV p ((i+1)%p.length)))=b3;generalize decide (0 < i)=b4;generalize Qk (ptA p 0) (ptA p i)=b5;cases b1<;>cases b2<;>cases b3<;>cases b4<;>cases b5<;>rfl
 ·simp only[mM,bU,jV,cond_false]
theorem Fy {n:Nat} {p:List bM} (hl:p.length<=1000) (hn:2000<=n) {i:Nat} (hi:i < p.length):
 iter (fI (dQ p) ((i:Nat):Int)) n (((i+2:Nat):Int))=some (bif (List.range p.length).any fun k=>decide (i+2<=k)&&O8 p i k then .inr (.inr (.inr false))else .inl ()):=by
 have st:∀ k,k < p.length->fI (dQ p) ((i:Nat):Int) ((k:Nat):Int)=some (bif O8 p i k then .inr (.inr (.inr (.inr false)))else .inl ((k+1:Nat):Int)):=by
  intro k hk;have g1:at? (dQ p) (((0:Nat):Int)+((i:Nat):Int))=some (fV p i):=by rw[bV (by rw[bU];exact hi),xV]
  have g2:at? (dQ p) (((0:Nat):Int)+((k:Nat):Int))=some (fV p k):=by rw[bV (by rw[bU];exact hk),xV]
  have w:i64.wrap (i64.wrap (((i:Nat):Int)+((p.length:Nat):Int)) - ((k:Nat):Int))=((i+p.length - k:Nat):Int):=by rw[aO (x:=((i:Nat):Int)+((p.length:Nat):Int)) (by omega) (by omega),aO (by omega) (by omega)];omega
  have dz:decide (((i+p.length - k:Nat):Int)>1)=decide (i+p.length - k>1):=by rw[Bool.eq_iff_iff,decide_eq_true_eq,decide_eq_true_eq];omega
  simp only[fI,bU,bq hk,cond_true,bD hi,bD hk,g1,g2,bind_some,w,dz,Bv,l8,Option.map_some,ax (show k < 9223372036854775807 by omega)];unfold O8;cases decide (i+p.length - k>1)<;>cases XK (fV p i) (fV p k)<;>rfl
 have main:∀ m k,k+m=p.length->∀ f,m < f->iter (fI (dQ p) ((i:Nat):Int)) f ((k:Nat):Int)=some (bif (List.range p.length).any fun j=>decide (k<=j)&&O8 p i j then .inr (.inr (.inr false))else .inl ()):=by
  intro m
  induction m with
  |zero=>
   intro k hk f hf;obtain⟨f,rfl⟩:∃ g,f=g+1:=⟨f - 1,by omega⟩;have:k=p.length:=(by omega);subst this;have e:((List.range p.length).any fun j=>decide (p.length<=j)&&O8 p i j)=false:=by
    rw[Bool.eq_false_iff];intro h;rw[any_eq_true]at h;obtain⟨j,h1,h2⟩:=h;rw[List.mem_range]at h1;simp only[and_eq_true,decide_eq_true_eq]at h2;omega
   rw[e];refine aY ?_;simp only[fI,bU,jV,cond_false]
  |succ m ih=>
   intro k hk f hf;obtain⟨f,rfl⟩:∃ g,f=g+1:=⟨f - 1,by omega⟩;have hkl:k < p.length:=(by omega);have h1:=st k hkl;cases hb:O8 p i k with
   |true=>
    rw[hb]at h1;have e:((List.range p.length).any fun j=>decide (k<=j)&&O8 p i j)=true:=by
     rw[any_eq_true];exact⟨k,List.mem_range.2 hkl,by simp[hb]⟩
    rw[e];exact aY h1
   |false=>
    rw[hb]at h1;rw[bW h1,ih (k+1) (by omega) f (by omega)];congr 2;rw[Bool.eq_iff_iff,any_eq_true,any_eq_true];constructor
    ·rintro⟨j,j1,j2⟩;simp only[and_eq_true,decide_eq_true_eq]at j2;exact⟨j,j1,by simp only[and_eq_true,decide_eq_true_eq];exact⟨by omega,j2.2⟩⟩
    ·rintro⟨j,j1,j2⟩;simp only[and_eq_true,decide_eq_true_eq]at j2;refine⟨j,j1,?_⟩;simp only[and_eq_true,decide_eq_true_eq];refine⟨?_,j2.2⟩;rcases Nat.lt_or_ge k j with h |h
     ·omega
     ·have:j=k:=(by omega);subst this;rw[hb]at j2;simp at j2
 by_cases h2:i+2<=p.length
 ·exact main (p.length - (i+2)) (i+2) (by omega) n (by omega)
 ·obtain⟨n,rfl⟩:∃ g,n=g+1:=⟨n - 1,by omega⟩;have e:((List.range p.length).any fun j=>decide (i+2<=j)&&O8 p i j)=false:=by
   rw[Bool.eq_false_iff];intro h;rw[any_eq_true]at h;obtain⟨j,h1,h2⟩:=h;rw[List.mem_range]at h1;simp only[and_eq_true,decide_eq_true_eq]at h2;omega
  rw[e];have d:decide (((i+2:Nat):Int) < ((p.length:Nat):Int))=false:=by rw[decide_eq_false_iff_not];omega
  refine aY ?_;simp only[fI,bU,d,cond_false]
theorem Fz {n:Nat} {p:List bM} (hl:p.length<=1000) (hn:2000<=n):iter (mO n (dQ p)) n (0:Int)=some (bif (List.range p.length).any fun i=>(List.range p.length).any fun k=>decide (i+2<=k)&&O8 p i k then .inr false else .inl ()):=by
 refine Fw p.length _ () false (fun i hi=>?_) ?_ n (by omega)
 ·have w2:i64.wrap ((i:Int)+2)=((i+2:Nat):Int):=by rw[aO (by omega) (by omega)];omega
  simp only[mO,bU,bq hi,cond_true,w2,Fy hl hn hi,ax (show i < 9223372036854775807 by omega)];cases (List.range p.length).any fun k=>decide (i+2<=k)&&O8 p i k<;>rfl
 ·simp only[mO,bU,jV,cond_false]
theorem MW {n:Nat} (p:List bM) (hn:2000<=n):sS n p=some (MI p):=by
 unfold sS MI;by_cases h4:p.length < 4
 ·have d1:decide (((p.length:Nat):Int) < 4)=true:=by simp;omega
  have d2:decide (4<=p.length)=false:=by simp;omega
  rw[d1,d2];rfl
 ·have d1:decide (((p.length:Nat):Int) < 4)=false:=by simp;omega
  have d2:decide (4<=p.length)=true:=by simp;omega
  by_cases h60:p.length>60
  ·have d3:decide (((p.length:Nat):Int)>60)=true:=(by simp;omega);have d4:decide (p.length<=60)=false:=(by simp;omega);rw[d1,d2,d3,d4];rfl
  ·have d3:decide (((p.length:Nat):Int)>60)=false:=(by simp;omega);have d4:decide (p.length<=60)=true:=(by simp;omega);have g:at? (dQ p) (((0:Nat):Int)+0)=some (fV p 0):=by
    have:=bV (l:=dQ p) (i:=0) (by rw[bU];omega);rw[xV]at this;exact this
   have i0:inb 0 (dQ p).length=true:=by
    have:=bD (i:=0) (n:=(dQ p).length) (by rw[bU];omega);simpa using this
   rw[d1,d2,d3,d4];simp only[cond_false,bind_some,zw (n:=n) (p:=p) (by omega) (by omega),Fx (n:=n) (p:=p) (by omega) hn,Bool.true_and];cases (List.range p.length).any (afu p)with
   |true=>rfl
   |false=>
    simp only[cond_false,gm,Fz (n:=n) (p:=p) (by omega) hn];cases (List.range p.length).any fun i=>(List.range p.length).any fun k=>decide (i+2<=k)&&O8 p i k with
    |true=>rfl
    |false=>
     simp only[cond_false,gm,i0,cond_true,g,bind_some,jW];rfl
def Aa (p:List bM) (x:Int):List Int:=((dQ p).filter fun s=>!upP s&&(decide (min s.a_x s.b_x<=x)&&decide (x < max s.a_x s.b_x))).map (·.a_y)
def BB (x0 x1:Int):List Int->List aj
 |a::b::l=>⟨x0,a,x1,b⟩::BB x0 x1 l
 |_=>[]
def xsP (p:List bM):List Int:=adK (p.map (·.x))
def SV (p:List bM):List aj:=(nO (fun a b=>BB a b (iY ltI (Aa p a))) (xsP p)).flatten
def wI (p:List bM):List aj×Int:=if MI p=true then (if (SV p).length>200 then ([],6)else (SV p,0))else ([],10)
theorem abY {p:List bM} (h:MI p=true):4<=p.length∧p.length<=60:=by
 unfold MI at h;simp only[and_eq_true,decide_eq_true_eq]at h;exact⟨h.1,h.2.1⟩
theorem Ec {n:Nat} {p:List bM} (hl:p.length<=1000) (hn:2000<=n):iter (jc p) n ((0:Int),([]:List Int))=some (p.map (·.x)):=by
 have:=bF (l:=p) (step:=jc p) (fun i (s:List Int)=>((i:Int),s)) (fun r s=>s++[r.x]) (fun s=>s) (fun i s=>s.length<=i)
  (fun i hi s hs=>?_) (fun s hs=>by simp[jc]) n (by omega) [] (Nat.le_refl _)
 ·rw[show ((0:Nat):Int)=0 from rfl]at this;rw[this];have gen:∀ (ys:List bM) (s:List Int),ys.foldl (fun s r=>s++[r.x]) s=s++ys.map (·.x):=by
   intro ys
   induction ys with
   |nil=>intro s;simp
   |cons y ys ih=>intro s;rw[foldl_cons,ih];simp
  congr 1;simpa using gen p []
 ·have ap:bG s.length s.length (sub ([(p[i]).x]:List Int) 0 1).length 1 8=true:=bE (n:=1) (by omega) (by simp only[maxLen];omega);simp only[jc,bq hi,cond_true,aZ hi,bind_some,ap,dF,aB];refine⟨?_,by simp;omega⟩;rw[ax (by omega)];rfl
theorem Ed {n:Nat} {p:List bM} (hl:p.length<=1000) (hn:2000<=n) (es:List Int) (i:Nat) (hi:i < es.length):iter (jd ((),es) (dQ p) ((i:Nat):Int)) n ((0:Int),([]:List Int))=some (Aa p es[i]):=by
 have:=bF (l:=dQ p) (step:=jd ((),es) (dQ p) ((i:Nat):Int)) (fun i (s:List Int)=>((i:Int),s)) (fun r s=>bif !upP r&&(decide (min r.a_x r.b_x<=es[i])&&decide (es[i] < max r.a_x r.b_x))then s++[r.a_y]else s) (fun s=>s) (fun i s=>s.length<=i)
  (fun j hj s hs=>?_) (fun s hs=>by simp[jd]) n (by rw[bU];omega) [] (Nat.le_refl _)
 ·rw[show ((0:Nat):Int)=0 from rfl]at this;rw[this];have gen:∀ (ys:List gB) (s:List Int),ys.foldl (fun s r=>bif !upP r&&(decide (min r.a_x r.b_x<=es[i])&&decide (es[i] < max r.a_x r.b_x))then s++[r.a_y]else s) s=s++(ys.filter fun s=>!upP s&&(decide (min s.a_x s.b_x<=es[i])&&decide (es[i] < max s.a_x s.b_x))).map (·.a_y):=by
   intro ys
   induction ys with
   |nil=>intro s;simp
   |cons y ys ih=>
    intro s;rw[foldl_cons,ih,List.filter_cons];cases !upP y&&(decide (min y.a_x y.b_x<=es[i])&&decide (es[i] < max y.a_x y.b_x))<;>simp
  congr 1;exact gen (dQ p) []
 ·rw[bU]at hj;have g:at? (dQ p) (((0:Nat):Int)+((j:Nat):Int))=some (dQ p)[j]:=bV (by rw[bU];exact hj);have ap:bG s.length s.length (sub ([((dQ p)[j]'(by rw[bU];exact hj)).a_y]:List Int) 0 1).length 1 8=true:=bE (n:=1) (by omega) (by simp only[maxLen];omega);generalize hr:(dQ p)[j]'(by rw[bU];exact hj)=r at*;simp only[jd,bU,bq hj,cond_true,bD hj,g,bind_some,jW,bD hi,bV hi,l8,ap,dF,aB,ax (show j < 9223372036854775807 by omega)];cases upP r<;>cases decide (min r.a_x r.b_x<=es[i])<;>cases decide (es[i] < max r.a_x r.b_x)<;>refine⟨rfl,?_⟩<;>simp<;>omega
theorem Wm (x0 x1:Int):∀ l:List Int,(BB x0 x1 l).length<=l.length
 |[]=>by simp[BB]
 |[_]=>by simp[BB]
 |a::b::l=>by have:=Wm x0 x1 l;simp only[BB,length_cons];omega
theorem Ee {n:Nat} (es:List Int) (i:Nat) (hi:i+1 < es.length) (he:es.length<=10000) (w2 r8:List Int) (hw:w2.length=r8.length) (hr:r8.length<=1000) (out:List aj) (ho:out.length<=10000000) (hn:2000<=n):
 iter (gF ((),es) ((i:Nat):Int) w2 r8) n ((0:Int),out)=some (out++BB (es[i]'(by omega)) es[i+1] r8):=by
 have main:∀ (m k:Nat) (out:List aj),k+m=r8.length->out.length<=10000000+k->∀ f,m < f->iter (gF ((),es) ((i:Nat):Int) w2 r8) f (((k:Nat):Int),out)=some (out++BB (es[i]'(by omega)) es[i+1] (r8.drop k)):=by
  intro m
  induction m using Nat.strongRecOn with
  |ind m ih=>
   intro k out hk hko f hf;obtain⟨f,rfl⟩:∃ g,f=g+1:=⟨f - 1,by omega⟩;have w1:i64.wrap ((k:Int)+1)=((k+1:Nat):Int):=ax (by omega);have w3:i64.wrap ((k:Int)+2)=((k+2:Nat):Int):=(by rw[aO (by omega) (by omega)];omega);have w4:i64.wrap ((i:Int)+1)=((i+1:Nat):Int):=ax (by omega);by_cases h2:k+1 < r8.length
   ·have d:decide (((k+1:Nat):Int) < ((w2.length:Nat):Int))=true:=(by rw[hw];exact bq h2);have ap:bG out.length out.length (sub ([(aj.mk (es[i]'(by omega)) (r8[k]'(by omega)) es[i+1] r8[k+1])]:List aj) 0 1).length 1 32=true:=bE (n:=1) (by omega) (by simp only[maxLen];omega);have st:gF ((),es) ((i:Nat):Int) w2 r8 (((k:Nat):Int),out)=some (.inl (((k+2:Nat):Int),out++[aj.mk (es[i]'(by omega)) (r8[k]'(by omega)) es[i+1] r8[k+1]])):=by
     simp only[gF,w1,w3,w4,d,cond_true,bD (show i < es.length by omega),bV (show i < es.length by omega),bind_some,bD (show k < w2.length by omega),bV (show k < r8.length by omega),bD hi,bV hi,bD (show k+1 < w2.length by omega),bV h2,ap,dF,aB];rfl
    have dr:r8.drop k=r8[k]::r8[k+1]::r8.drop (k+2):=(by rw[drop_eq_getElem_cons (by omega),drop_eq_getElem_cons h2]);rw[bW st,ih (m - 2) (by omega) (k+2) _ (by omega) (by rw[length_append,length_singleton];omega) f (by omega),dr];simp[BB]
   ·have d:decide (((k+1:Nat):Int) < ((w2.length:Nat):Int))=false:=(by rw[hw,decide_eq_false_iff_not];omega);have e:BB (es[i]'(by omega)) es[i+1] (r8.drop k)=[]:=by
     have hl:(r8.drop k).length<=1:=by rw[length_drop];omega
     match r8.drop k,hl with
     |[],_=>rfl
     |[_],_=>rfl
     |_::_::_,h=>simp at h
    rw[e,append_nil];refine aY ?_;simp only[gF,w1,d,cond_false,aB,cond_true]
 have:=main r8.length 0 out (by omega) (by omega) n (by omega);rw[show ((0:Nat):Int)=0 from rfl,List.drop_zero]at this;exact this
theorem agF (p:List bM):(xsP p).length<=p.length:=by
 have h:=oM (iY ltI (p.map (·.x)));rw[bL,length_map]at h;exact h
theorem SY (p:List bM) (x:Int):(Aa p x).length<=p.length:=by
 unfold Aa;rw[length_map,<- bU p];exact length_filter_le _ _
theorem xX {α:Type} (b:Nat):∀ l:List (List α),(∀ x∈l,x.length<=b)->l.flatten.length<=l.length*b
 |[],_=>by simp
 |x::l,h=>by
  have h1:=xX b l fun y hy=>h y (mem_cons_of_mem _ hy);have h2:=h x mem_cons_self;rw[List.flatten_cons,length_append,length_cons,Nat.add_mul];omega
theorem Ef {n:Nat} {p:List bM} (hl:p.length<=1000) (hn:2000<=n):
 iter (je n ((),xsP p) (dQ p)) n ((0:Int),([]:List aj))=some (SV p):=by
 have hx:=agF p;obtain⟨p1,p2⟩:=pq (fun a b=>BB a b (iY ltI (Aa p a))) (xsP p)
 let C:=nO (fun a b=>BB a b (iY ltI (Aa p a))) (xsP p)
 have hC:C.length=(xsP p).length - 1:=p1;have cl:∀ c∈C,c.length<=1000:=by
  intro c hc;obtain⟨i,hi,rfl⟩:=mem_iff_getElem.1 hc;have:=p2 i (by omega) hi;show (C[i]).length<=1000;rw[show C[i]=_ from this];have h1:=Wm (xsP p)[i] (xsP p)[i+1] (iY ltI (Aa p (xsP p)[i]));rw[bL]at h1;have h2:=SY p (xsP p)[i];omega
 have bl:∀ i,((C.take i).flatten).length<=1000*1000:=by
  intro i;have h1:=xX 1000 (C.take i) fun x hx=>cl x (List.mem_of_mem_take hx);have h2:(C.take i).length<=1000:=by rw[length_take];omega
  exact Nat.le_trans h1 (Nat.mul_le_mul_right _ h2)
 have main:=eO (step:=je n ((),xsP p) (dQ p)) (fun i=>(((i:Nat):Int),(C.take i).flatten)) C.length (SV p) (fun i hi=>?_) ?_ n (by omega)
 ·simpa using main
 ·have hi2:i+1 < (xsP p).length:=by omega
  have hw:i64.wrap ((((xsP p).length:Nat):Int) - 1)=((C.length:Nat):Int):=by rw[aO (by omega) (by omega)];omega
  have bi:=bl i;have cr:=SY p (xsP p)[i];have e:C.take (i+1)=C.take i++[BB (xsP p)[i] (xsP p)[i+1] (iY ltI (Aa p (xsP p)[i]))]:=by
   rw[take_succ_eq_append_getElem hi];congr 2;exact p2 i hi2 hi
  simp only[je,hw,bq hi,cond_true,length_nil,aB,Ed hl hn (xsP p) i (by omega),bind_some];rw[l5 (by omega) (by omega)];simp only[bind_some];rw[Ee (xsP p) i hi2 (by omega) (Aa p (xsP p)[i]) (iY ltI (Aa p (xsP p)[i])) (by rw[bL]) (by rw[bL];omega) _ (by omega) hn];simp only[bind_some,aB,cond_true,e,List.flatten_append,List.flatten_cons,List.flatten_nil,append_nil,ax (show i < 9223372036854775807 by omega)]
 ·have hw:i64.wrap ((((xsP p).length:Nat):Int) - 1)=(((xsP p).length:Nat):Int) - 1:=aO (by omega) (by omega);have d:decide (((C.length:Nat):Int) < (((xsP p).length:Nat):Int) - 1)=false:=by rw[decide_eq_false_iff_not];omega
  simp only[je,hw,d,cond_false,aB,cond_true,List.take_length];rfl
theorem KV {n:Nat} (p:List bM) (hn:2000<=n):qz n p=some (wI p):=by
 unfold qz wI;rw[MW p hn];simp only[bind_some];cases hr:MI p with
 |false=>rfl
 |true=>
  obtain⟨_,hl⟩:=abY hr;simp only[Bool.not_true,cond_false,length_nil,aB,cond_true,Ec (n:=n) (p:=p) (by omega) hn,bind_some,if_true];rw[l5 (by rw[length_map];omega) (by rw[length_map];omega)];simp only[bind_some,bL,aB,cond_true];rw[lJ (by rw[bL,length_map];omega) (by rw[bL,length_map];omega)];simp only[bind_some,zw (n:=n) (p:=p) (by omega) (by omega)];have hE:dU (iY ltI (p.map (·.x)))=xsP p:=rfl;rw[hE,Ef (by omega) hn];simp only[bind_some,bB,aB,cond_true];by_cases h200:(SV p).length>200
  ·have:decide ((((SV p).length:Nat):Int)>200)=true:=(by simp;omega);rw[this,if_pos h200];rfl
  ·have:decide ((((SV p).length:Nat):Int)>200)=false:=(by simp;omega);rw[this,if_neg h200];rfl
theorem ZV (p:List bM):(wI p).1.length<=200:=by
 unfold wI;split
 ·split
  ·simp
  ·simp;omega
 ·simp
def afA:uf:=uf.mk 0 0 [] []
def findLot (land:List uf) (id:Int):uf×Bool:=match land.find? fun t=>t.id==id with
 |some t=>(t,true)
 |none=>(afA,false)
theorem S9 {α:Type} (p:α->Bool) (l:List α):(∃ (i:Nat) (h:i < l.length),kS p l=some i∧l.find? p=some l[i])∨(kS p l=none∧l.find? p=none):=by
 rcases CF p l with ⟨i,hi,h1,h2,h3⟩ |⟨h1,h2⟩
 ·refine .inl ⟨i,hi,h1,?_⟩;rw[List.find?_eq_some_iff_getElem];exact⟨h2,i,hi,rfl,fun j hj=>by simpa using h3 j hj⟩
 ·refine .inr ⟨h1,?_⟩;rw[List.find?_eq_none];intro x hx;rw[h2 x hx];simp
def afB:List ByteArray:=[⟨#[104,111,109,101]⟩,⟨#[115,104,111,112]⟩,⟨#[119,111,114,107]⟩,⟨#[112,97,114,107]⟩,⟨#[112,108,97,110,116]⟩,⟨#[104,97,108,108]⟩]
def nameOf (use:Int):Option ByteArray:=at? afB use
def FB (out:List aQ) (x:aQ):List aQ:=
 if x.area=[]then out else match out.getLast? with
 |some q=>if q.z1=x.z0∧q.area=x.area then out.dropLast++[⟨q.z0,x.z1,q.area⟩]else out++[x]
 |none=>[x]
theorem afC (out:List aQ) (x:aQ):(FB out x).length<=out.length+1:=by
 unfold FB;split
 ·omega
 ·split
  ·split
   ·simp only[length_append,List.length_dropLast,length_singleton];omega
   ·simp
  ·simp
def ad2 (x:aQ):Bool:=decide (x.z0 < 0) || (decide (x.z0>=x.z1) || (decide (x.z1>4096) || (decide (x.area=[]) || !rightL x.area)))
def ZW (p:Option aQ×aQ):Bool:=ad2 p.2 || p.1.any fun q=>decide (q.z1>p.2.z0) || (q.z1==p.2.z0&&decide (q.area=p.2.area))
def Ab (s:List aQ):List (Option aQ×aQ):=(none::s.map some).zip s
def xY (s:List aQ):Bool:=decide (s.length<=80)&&!((Ab s).any ZW)
theorem l9 (s:List aQ):(Ab s).length=s.length:=by simp[Ab]
theorem Dg {s:List aQ} {i:Nat} (h:i < (Ab s).length):(Ab s)[i]=(if h0:i=0 then none else some (s[i - 1]'(by rw[l9]at h;omega)),s[i]'(by rw[l9]at h;exact h)):=by
 simp only[Ab,List.getElem_zip,Prod.mk.injEq,and_true];cases i with
 |zero=>simp
 |succ i=>simp
theorem uH {n:Nat} {s:List aQ} (ha:∀ x∈s,x.area.length<=900) (hn:1000<=n):uz n s=some (xY s):=by
 unfold uz xY;by_cases h80:s.length<=80
 ·have d:decide ((s.length:Int)>80)=false:=by simp;omega
  have d2:decide (s.length<=80)=true:=by simpa using h80
  have z:∀ l:List aj,(((l.length:Int))==0)=decide (l=[]):=fun l=>by cases l<;>simp<;>omega
  have:=jG (l:=Ab s) (step:=zm n s) (fun i=>((i:Nat):Int)) ZW () (fun _=>false) (fun i hi=>?_) ?_ n (by rw[l9];omega)
  ·rw[show ((0:Nat):Int)=0 from rfl]at this;rw[d,d2,this,<- MK];cases kS ZW (Ab s)<;>rfl
  ·rw[Dg];rw[l9]at hi;have hi':decide (((i:Nat):Int) < (s.length:Int))=true:=(by simpa using hi);have h1:=ha _ (getElem_mem hi);simp only[zm,hi',cond_true,aZ hi,bind_some,z,jl (n:=n) (l:=s[i].area) (by omega) (by omega) hn,ZW];rw[ax (by omega)];have b:((bif decide (s[i].z0 < 0)then some true else bif decide (s[i].z0>=s[i].z1)then some true else bif decide (s[i].z1>4096)then some true else bif decide (s[i].area=[])then some true else some (!rightL s[i].area)):Option Bool)=some (ad2 s[i]):=by
    unfold ad2;cases decide (s[i].z0 < 0)<;>cases decide (s[i].z0>=s[i].z1)<;>cases decide (s[i].z1>4096)<;>cases decide (s[i].area=[])<;>rfl
   rw[b];simp only[bind_some];cases ad2 s[i]with
   |true=>simp[dw]
   |false=>
    by_cases h0:i=0
    ·subst h0;have:((((0:Nat):Int))==0)=true:=rfl;simp only[this,cond_true,cond_false,gm,dif_pos,Option.any_none,Bool.or_false]
    ·have e0:(((i:Nat):Int)==0)=false:=(by simp;omega);have w:i64.wrap ((i:Int) - 1)=((i - 1:Nat):Int):=iQ (by omega) (by omega);have h2:=ha _ (getElem_mem (show i - 1 < s.length by omega));simp only[e0,cond_false,w,aZ (show i - 1 < s.length by omega),bind_some,abP (n:=n) (a:=s[i - 1].area) (b:=s[i].area) (by omega) (by omega),h0,dif_neg,not_false_eq_true,Option.any_some,Bool.false_or];cases decide (s[i - 1].z1>s[i].z0)with
     |true=>simp[dw]
     |false=>
      cases s[i - 1].z1==s[i].z0 with
      |false=>simp[dw]
      |true=>cases decide (s[i - 1].area=s[i].area)<;>simp[dw]
  ·rw[l9];simp[zm]
 ·have d:decide ((s.length:Int)>80)=true:=by simp;omega
  have d2:decide (s.length<=80)=false:=by simpa using h80
  rw[d,d2];rfl
structure FC (x:aQ):Prop where
 lo:0<=x.z0
 lt:x.z0 < x.z1
 hi:x.z1<=4096
 ne:x.area≠[]
 rt:rightL x.area=true
def OG (s:List aQ):Prop:=∀ i (h:i+1 < s.length),s[i].z1<=s[i+1].z0∧¬ (s[i].z1=s[i+1].z0∧s[i].area=s[i+1].area)
theorem ZX (x:aQ):ad2 x=false↔FC x:=by
 unfold ad2;simp only[Bool.or_eq_false_iff,decide_eq_false_iff_not,Bool.not_eq_false'];constructor
 ·rintro⟨h1,h2,h3,h4,h5⟩;exact⟨by omega,by omega,by omega,h4,h5⟩
 ·rintro⟨h1,h2,h3,h4,h5⟩;exact⟨by omega,by omega,by omega,h4,h5⟩
theorem rQ (s:List aQ):xY s=true↔s.length<=80∧(∀ x∈s,FC x)∧OG s:=by
 unfold xY;rw[and_eq_true,decide_eq_true_eq,Bool.not_eq_true',List.any_eq_false];refine and_congr_right fun _=>?_;constructor
 ·intro h;have key:∀ i (hi:i < s.length),ZW ((Ab s)[i]'(by rw[l9];exact hi))=false:=fun i hi=>by
   have:=h _ (getElem_mem (show i < (Ab s).length by rw[l9];exact hi));simpa using this
  refine⟨fun x hx=>?_,fun i hi=>?_⟩
  ·obtain⟨i,hi,rfl⟩:=mem_iff_getElem.1 hx;have:=key i hi;rw[Dg]at this;unfold ZW at this;rw[Bool.or_eq_false_iff]at this;exact (ZX _).1 this.1
  ·have:=key (i+1) hi;rw[Dg]at this;unfold ZW at this;rw[Bool.or_eq_false_iff]at this;have h2:=this.2;simp only[Nat.succ_ne_zero,dif_neg,not_false_eq_true,Option.any_some,Nat.add_sub_cancel,Bool.or_eq_false_iff,decide_eq_false_iff_not,Bool.and_eq_false_iff,beq_eq_false_iff_ne]at h2;refine⟨by omega,fun⟨e1,e2⟩=>?_⟩;rcases h2.2 with h3 |h3
   ·exact h3 e1
   ·exact h3 e2
 ·rintro⟨h1,h2⟩ p hp;obtain⟨i,hi,rfl⟩:=mem_iff_getElem.1 hp;rw[Dg];rw[l9]at hi;unfold ZW;have hb:=(ZX _).2 (h1 _ (getElem_mem hi));by_cases h0:i=0
  ·simp[h0]at hb ⊢;exact hb
  ·obtain⟨j,rfl⟩:∃ j,i=j+1:=⟨i - 1,by omega⟩;obtain⟨n1,n2⟩:=h2 j hi;simp only[Nat.succ_ne_zero,dif_neg,not_false_eq_true,Option.any_some,Nat.add_sub_cancel];rw[hb];simp only[Bool.false_or,Bool.or_eq_true,decide_eq_true_eq,and_eq_true,beq_iff_eq];rintro (h |h)
   ·omega
   ·exact n2 h
theorem Ta {s:List aQ} {x:aQ} (h:OG s) (hx:∀ q∈s.getLast?,q.z1<=x.z0∧¬ (q.z1=x.z0∧q.area=x.area)):OG (s++[x]):=by
 intro i hi;rw[length_append,length_singleton]at hi;by_cases hl:i+1 < s.length
 ·rw[List.getElem_append_left (by omega),List.getElem_append_left hl];exact h i hl
 ·have e:i+1=s.length:=by omega
  rw[List.getElem_append_left (by omega),List.getElem_append_right (by omega)];have:=hx s[i] (by rw[List.getLast?_eq_getElem?];simp[<- e]);simpa using this
theorem abZ {s:List aQ} {x:aQ} (h:OG (s++[x])):OG s∧∀ q∈s.getLast?,q.z1<=x.z0∧¬ (q.z1=x.z0∧q.area=x.area):=by
 refine⟨fun i hi=>?_,fun q hq=>?_⟩
 ·have:=h i (by rw[length_append];omega);rw[List.getElem_append_left (by omega),List.getElem_append_left hi]at this;exact this
 ·rw[List.getLast?_eq_getElem?]at hq;obtain⟨hl,rfl⟩:=List.getElem?_eq_some_iff.1 hq;have:=h (s.length - 1) (by rw[length_append,length_singleton];omega);rw[List.getElem_append_left (by omega),List.getElem_append_right (by omega)]at this;simpa using this
def badE (E:List aj) (top:Int) (s:List aQ):Prop:=∃ c∈s,c.z1>top∧meetL c.area E=true
theorem Tc (E:List aj) (top:Int) (a b:List aQ):badE E top (a++b)↔badE E top a∨badE E top b:=by
 unfold badE;constructor
 ·rintro⟨c,hc,h⟩;rcases mem_append.1 hc with hc |hc
  ·exact .inl ⟨c,hc,h⟩
  ·exact .inr ⟨c,hc,h⟩
 ·rintro (⟨c,hc,h⟩ |⟨c,hc,h⟩)
  ·exact⟨c,List.mem_append_left _ hc,h⟩
  ·exact⟨c,List.mem_append_right _ hc,h⟩
theorem KW (E:List aj) (top:Int) (x:aQ):badE E top [x]↔x.z1>top∧meetL x.area E=true:=by
 unfold badE;constructor
 ·rintro⟨c,hc,h⟩;have:c=x:=by simpa using hc
  rw[<- this];exact h
 ·intro h;exact⟨x,by simp,h⟩
theorem ad3 {out:List aQ} {x:aQ} (h1:∀ s∈out,FC s) (h2:OG out) (hx:x.area≠[]->FC x) (hz:x.z0 < x.z1) (hq:∀ q∈out.getLast?,q.z1<=x.z0):
 (∀ s∈FB out x,FC s)∧OG (FB out x)∧(∀ q∈(FB out x).getLast?,q.z1<=x.z1)∧∀ E top,badE E top (FB out x)↔badE E top out∨(x.z1>top∧meetL x.area E=true):=by
 unfold FB;by_cases he:x.area=[]
 ·rw[if_pos he];refine⟨h1,h2,fun q h=>by have:=hq q h;omega,fun E top=>?_⟩;have:meetL x.area E=false:=by rw[he];rfl
  rw[this];simp
 ·rw[if_neg he];have ok:=hx he;rcases List.eq_nil_or_concat out with rfl |⟨o,q,e⟩
  ·refine⟨fun s hs=>by have:s=x:=by simpa using hs
                       rw[this];exact ok,fun i hi=>by simp at hi,fun q h=>by simp at h;subst h;exact Int.le_refl _,fun E top=>?_⟩
   show badE E top [x]↔_;rw[KW];simp[badE]
  ·rw[List.concat_eq_append]at e;subst e;have gl:(o++[q]).getLast? =some q:=(by simp);have dl:(o++[q]).dropLast=o:=(by simp);have hqx:=hq q (by rw[gl];rfl);obtain⟨n1,n2⟩:=abZ h2;have oq:=h1 q (by simp);simp only[gl,dl];by_cases hm:q.z1=x.z0∧q.area=x.area
   ·rw[if_pos hm];refine⟨fun s hs=>?_,Ta n1 fun p hp=>n2 p hp,fun p hp=>by simp at hp;subst hp;exact Int.le_refl _,fun E top=>?_⟩
    ·rcases mem_append.1 hs with hs |hs
     ·exact h1 s (List.mem_append_left _ hs)
     ·have:s=⟨q.z0,x.z1,q.area⟩:=(by simpa using hs);subst this;exact⟨oq.lo,Int.lt_trans oq.lt (by show q.z1 < x.z1;rw[hm.1];exact hz),ok.hi,oq.ne,oq.rt⟩
    ·rw[Tc,Tc,KW,KW];simp only[hm.2];have:=hm.1;constructor
     ·rintro (h |h)
      ·exact .inl (.inl h)
      ·exact .inr h
     ·rintro ((h |⟨h,h'⟩) |h)
      ·exact .inl h
      ·exact .inr ⟨by omega,h'⟩
      ·exact .inr h
   ·rw[if_neg hm];refine⟨fun s hs=>?_,Ta h2 fun p hp=>?_,fun p hp=>by simp at hp;subst hp;exact Int.le_refl _,fun E top=>?_⟩
    ·rcases mem_append.1 hs with hs |hs
     ·exact h1 s hs
     ·have:s=x:=(by simpa using hs);rw[this];exact ok
    ·rw[gl]at hp;have:p=q:=(by simpa using hp.symm);subst this;exact⟨hqx,hm⟩
    ·rw[Tc,KW]
def atS (s:List aQ) (z:Int):List aj:=match s.find? fun x=>decide (x.z0<=z)&&decide (z < x.z1)with
 |some x=>x.area
 |none=>[]
theorem afD {n:Nat} {s:List aQ} {z:Int} (hl:s.length<=900) (hn:1000<=n):ac1 n s z=some (atS s z):=by
 unfold ac1;have:=jG (l:=s) (step:=KG s z) (fun i=>(i:Int)) (fun x=>decide (x.z0<=z)&&decide (z < x.z1)) () (fun i=>(s.getD i ⟨0,0,[]⟩).area) (fun i hi=>?_) (by simp[KG]) n (by omega)
 ·rw[show ((0:Nat):Int)=0 from rfl]at this;rw[this];unfold atS;rcases S9 (fun x:aQ=>decide (x.z0<=z)&&decide (z < x.z1)) s with ⟨i,hi,h1,h2⟩ |⟨h1,h2⟩
  ·rw[h1,h2];simp[hi]
  ·rw[h1,h2];rfl
 ·have hi':decide (((i:Nat):Int) < (s.length:Int))=true:=by simpa using hi
  simp only[KG,hi',cond_true,aZ hi,bind_some,IY];cases decide (s[i].z0<=z)&&decide (z < s[i].z1)with
  |true=>simp[hi]
  |false=>simp only[cond_false];rw[ax (by omega)]
theorem ahC {s:List aQ} (h:∀ x∈s,FC x) (z:Int):rightL (atS s z)=true:=by
 unfold atS;split
 ·rename_i x hx;exact (h x (List.mem_of_find?_eq_some hx)).rt
 ·rfl
theorem pV {n:Nat} {l:List aQ} {φ:(aQ×Unit)->Option Bool} (p:aQ->Bool) (h:∀ x∈l,φ (x,())=some (p x)) (hl:l.length < 1099511627776) (hn:l.length < n):fU n l φ=some (l.any p):=by
 unfold fU qK;have:=jG (l:=l) (step:=ji l φ) (fun i=>((i:Nat):Int)) p () (fun i=>((i:Nat):Int)) (fun i hi=>?_) (by simp[ji]) n hn
 ·rw[show ((0:Nat):Int)=0 from rfl]at this;rw[this,<- MK];cases kS p l with
  |none=>rfl
  |some i=>simp<;>omega
 ·have hi':decide (((i:Nat):Int) < (l.length:Int))=true:=by simpa using hi
  simp only[ji,hi',cond_true,aZ hi,bind_some,h _ (getElem_mem hi)];rw[ax (by omega)];cases p l[i]<;>rfl
def ad4 (s:List aQ) (lot:Int) (e:aV):Bool:=e.lot==lot&&(rightL e.area&&s.any fun c=>decide (c.z1>e.top)&&meetL c.area e.area)
def ac3 (l:List aV) (lot:Int) (s:List aQ):Bool:=xY s&&!(l.any (ad4 s lot))
theorem UJ {n:Nat} {l:List aV} {lot:Int} {s:List aQ} (hl:l.length<=900) (he:∀ e∈l,e.area.length<=900) (ha:∀ x∈s,x.area.length<=900) (hn:1000<=n):C8 n l lot s=some (ac3 l lot s):=by
 unfold C8 ac3;rw[uH ha hn];simp only[bind_some];cases hr:xY s with
 |false=>rfl
 |true=>
 have l80:=((rQ s).1 hr).1;have:=jG (l:=l) (step:=tq n l lot s) (fun i=>((i:Nat):Int)) (ad4 s lot) () (fun _=>false) (fun i hi=>?_) (by simp[tq]) n (by omega)
 ·rw[show ((0:Nat):Int)=0 from rfl]at this;simp only[Bool.not_true,cond_false];rw[this,<- MK];cases kS (ad4 s lot) l<;>rfl
 ·have hi':decide (((i:Nat):Int) < (l.length:Int))=true:=by simpa using hi
  have h1:=he _ (getElem_mem hi);have cf:=pV (n:=n) (l:=s) (φ:=fun y:aQ×Unit=>ou n y.1 l[i]) (fun c=>decide (c.z1>l[i].top)&&meetL c.area l[i].area) (fun c hc=>by
   have:=ha c hc;show ou n c l[i]=_;unfold ou;rw[abO (by omega) (by omega) (by omega) (by omega)];cases decide (c.z1>l[i].top)<;>rfl) (by omega) (by omega)
  simp only[tq,hi',cond_true,aZ hi,bind_some,jl (n:=n) (l:=l[i].area) (by omega) (by omega) hn,cf];rw[ax (by omega)];unfold ad4;cases h2:l[i].lot==lot with
  |false=>
   have:(l[i].lot != lot)=true:=(by simp[bne,h2]);simp[this,dw]
  |true=>
   have:(l[i].lot != lot)=false:=(by simp[bne,h2]);simp only[this,cond_false,bind_some];cases rightL l[i].area with
   |false=>simp[dw]
   |true=>cases s.any fun c=>decide (c.z1>l[i].top)&&meetL c.area l[i].area<;>simp[dw]
theorem afE (s:List aQ) (lot:Int) (e:aV):ad4 s lot e=true↔e.lot=lot∧rightL e.area=true∧badE e.area e.top s:=by
 unfold ad4 badE;rw[and_eq_true,and_eq_true,beq_iff_eq,any_eq_true];simp only[and_eq_true,decide_eq_true_eq]
theorem Td {V O:Type} {step:V->Option (V ⊕ O)} (R:Nat->V->Prop) (N:Nat) (Q:O->Prop) (h:∀ i v,i < N->R i v->∃ v',step v=some (.inl v')∧R (i+1) v') (hN:∀ v,R N v->∃ o,step v=some (.inr o)∧Q o):
 ∀ n,N < n->∀ v,R 0 v->∃ o,iter step n v=some o∧Q o:=by
 have main:∀ k i n v,i+k=N->k < n->R i v->∃ o,iter step n v=some o∧Q o:=by
  intro k
  induction k with
  |zero=>
   intro i n v hi hn hR;obtain⟨m,rfl⟩:∃ m,n=m+1:=⟨n - 1,by omega⟩;have:i=N:=(by omega);subst this;obtain⟨o,h1,h2⟩:=hN v hR;exact⟨o,aY h1,h2⟩
  |succ k ih=>
   intro i n v hi hn hR;obtain⟨m,rfl⟩:∃ m,n=m+1:=⟨n - 1,by omega⟩;obtain⟨v',h1,h2⟩:=h i v (by omega) hR;obtain⟨o,h3,h4⟩:=ih (i+1) m v' (by omega) (by omega) h2;exact⟨o,by rw[bW h1,h3],h4⟩
 intro n hn v hR;exact main N 0 n v (by omega) hn hR
def Ac (z:vL):List aj:=if (wI z.corners).2=0 then (wI z.corners).1 else []
theorem ab0 (z:vL):(Ac z).length<=200:=by
 unfold Ac;split
 ·exact ZV _
 ·simp
theorem O9 {n:Nat} (z:vL) (hn:2000<=n):wh n z=some (Ac z):=by
 unfold wh Ac;rw[KV _ hn];simp only[bind_some,bB,aB,cond_true];by_cases h:(wI z.corners).2=0
 ·have:((wI z.corners).2 != 0)=false:=by simp[h]
  rw[this,if_pos h];rfl
 ·have:((wI z.corners).2 != 0)=true:=by simp[h]
  rw[this,if_neg h];rfl
def bI (a b:aj):aj:=⟨max a.x0 b.x0,max a.y0 b.y0,min a.x1 b.x1,min a.y1 b.y1⟩
theorem KX (a:aj):wW a=some (bif OkR a then (a,true)else (⟨0,0,0,0⟩,false)):=by
 unfold wW;rw[o9];simp only[bind_some,l8]
theorem Te (a b:aj):zi a b=some (bif OkR a&&(OkR b&&OkR (bI a b))then (bI a b,true)else (⟨0,0,0,0⟩,false)):=by
 unfold zi;rw[o9,o9];simp only[bind_some,l8];rw[show aj.mk (max a.x0 b.x0) (max a.y0 b.y0) (min a.x1 b.x1) (min a.y1 b.y1)=bI a b from rfl,KX];simp only[bind_some];generalize OkR (bI a b)=c;cases OkR a<;>cases OkR b<;>cases c<;>rfl
def afF (r:aj):Int:=i64.wrap (i64.wrap (r.x1 - r.x0)*i64.wrap (r.y1 - r.y0))
theorem ad5 {r:aj} (h:OkR r=true):E9 r=some (afF r):=by
 unfold E9;rw[KX,h];rfl
def ZY (x:aj) (n:Int) (y:aj):Int:=bif OkR x&&(OkR y&&OkR (bI x y))then i64.wrap (n+afF (bI x y))else n
def Dh (a b:List aj):Int:=a.foldl (fun n x=>b.foldl (ZY x) n) 0
theorem agG {α β:Type} (c:Bool) (a:α) (u v:β):(bif c then (a,u)else (a,v)).1=a:=by cases c<;>rfl
theorem FD {n:Nat} (b:List aj) (x:aj) (hb:b.length<=1000) (hn:2000<=n) (m u v:Int):∃ o,iter (mQ n b x) n (m,(0:Int),u,v)=some o∧o.1=b.foldl (ZY x) m:=by
 refine Td (fun i (w:Int×Int×Int×Int)=>w.2.1=(i:Int)∧w.1=(b.take i).foldl (ZY x) m) b.length (fun (o:Int×Int×Int)=>o.1=b.foldl (ZY x) m) (fun i w hi hR=>?_) (fun w hR=>?_) n (by omega) _ ⟨rfl,rfl⟩
 ·obtain⟨w1,w2,w3,w4⟩:=w;obtain⟨h1,h2⟩:=hR;simp only at h1 h2;subst h1;have e:(b.take (i+1)).foldl (ZY x) m=ZY x w1 b[i]:=by rw[take_succ_eq_append_getElem hi,List.foldl_append,<- h2];rfl
  simp only[mQ,bq hi,cond_true,aZ hi,bind_some,Te];have e0:ZY x w1 b[i]=bif OkR x&&(OkR b[i]&&OkR (bI x b[i]))then i64.wrap (w1+afF (bI x b[i]))else w1:=rfl;rw[e0]at e;cases hc:OkR x&&(OkR b[i]&&OkR (bI x b[i]))with
  |false=>
   rw[hc]at e;simp only[cond_false,Bool.not_false,cond_true,bind_some];exact⟨_,rfl,ax (by omega),e.symm⟩
  |true=>
   rw[hc]at e;have hcc:OkR (bI x b[i])=true:=by
    revert hc;generalize OkR (bI x b[i])=c;cases c
    ·cases OkR x<;>cases OkR b[i]<;>simp
    ·simp
   simp only[cond_true,Bool.not_true,cond_false,ad5 hcc,bind_some,iF];rw[show ∀ u v:Int,sub [u,v] 0 2=[u,v]from fun _ _=>rfl,SA _ _ (by omega)];simp only[bind_some,l8];simp only[show ∀ u v:Int,eqL [u,v].length 2=true from fun _ _=>rfl,cond_true,bind_some];refine⟨_,rfl,ax (show i < 9223372036854775807 by omega),?_⟩;rw[e];exact agG _ _ _ _
 ·obtain⟨w1,w2,w3,w4⟩:=w;obtain⟨h1,h2⟩:=hR;simp only at h1 h2;subst h1;simp only[mQ,jV,cond_false];exact⟨_,rfl,by rw[h2,List.take_length]⟩
theorem MX {n:Nat} (a b:List aj) (ha:a.length<=1000) (hb:b.length<=1000) (hn:2000<=n):∃ q,sU n a b=some (Dh a b,q):=by
 unfold sU;obtain⟨o,h1,h2⟩:=Td (step:=mR n a b) (fun i (w:Int×Int×Int×Int)=>w.2.1=(i:Int)∧w.1=(a.take i).foldl (fun n x=>b.foldl (ZY x) n) 0) a.length (fun (o:Int×Int×Int)=>o.1=Dh a b) (fun i w hi hR=>by
  obtain⟨w1,w2,w3,w4⟩:=w;obtain⟨h1,h2⟩:=hR;simp only at h1 h2;subst h1;obtain⟨o,g1,g2⟩:=FD (n:=n) b a[i] hb hn w1 w3 w4;obtain⟨o1,o2,o3⟩:=o;simp only[mR,bq hi,cond_true,aZ hi,bind_some,g1];refine⟨_,rfl,ax (by omega),?_⟩;simp only at g2;rw[take_succ_eq_append_getElem hi,List.foldl_append,<- h2,g2];rfl) (fun w hR=>by
  obtain⟨w1,w2,w3,w4⟩:=w;obtain⟨h1,h2⟩:=hR;simp only at h1 h2;subst h1;simp only[mR,jV,cond_false];exact⟨_,rfl,by rw[h2,List.take_length];rfl⟩) n (by omega) (0,0,1048576,0) ⟨rfl,rfl⟩
 obtain⟨o1,o2,o3⟩:=o;simp only at h2;subst h2;exact⟨_,by rw[h1];rfl⟩
def wJ (zs:List vL) (area:List aj):List Int:=bif rightL area then zs.map fun z=>Dh area (Ac z)else []
theorem MZ {n:Nat} (p:xM) (a:List aj) (hz:p.zones.length<=100) (ha:a.length<=900) (hn:2000<=n):sV n p a=some (wJ p.zones a):=by
 unfold sV wJ;rw[jl (by omega) (by omega) (by omega)];simp only[bind_some];cases rightL a with
 |false=>rfl
 |true=>
  have:=bF (l:=p.zones) (step:=mU n p a) (fun i (s:List Int)=>((i:Int),s)) (fun z s=>s++[Dh a (Ac z)]) (fun s=>s) (fun i s=>s.length<=i)
   (fun i hi s hs=>?_) (fun s hs=>by simp[mU]) n (by omega) [] (Nat.le_refl _)
  ·rw[show ((0:Nat):Int)=0 from rfl]at this;simp only[Bool.not_true,cond_false,length_nil,aB,cond_true,this,bind_some,bB];congr 1;have gen:∀ (ys:List vL) (s:List Int),ys.foldl (fun s z=>s++[Dh a (Ac z)]) s=s++ys.map fun z=>Dh a (Ac z):=by
    intro ys
    induction ys with
    |nil=>intro s;simp
    |cons y ys ih=>intro s;rw[foldl_cons,ih];simp
   exact gen p.zones []
  ·have cl:=ab0 p.zones[i];obtain⟨q,hq⟩:=MX (n:=n) a (Ac p.zones[i]) (by omega) (by omega) hn;have ap:bG s.length s.length (sub ([Dh a (Ac p.zones[i])]:List Int) 0 1).length 1 8=true:=bE (n:=1) (by omega) (by simp only[maxLen];omega);simp only[mU,bq hi,cond_true,aZ hi,bind_some,O9 _ hn,bB,aB,hq,ap,dF];refine⟨?_,by simp;omega⟩;rw[ax (by omega)];rfl
theorem OH (zs:List vL) (a:List aj):(wJ zs a).length<=zs.length:=by
 unfold wJ;cases rightL a<;>simp
def vM (zs:List vL) (l:List Int) (m:Nat):Int:=(List.range m).foldl (fun (b:Int) i=>if (!((zs.getD i ⟨⟨#[]⟩,false,[]⟩).overlay)&&(decide (l.getD i 0>0)&&(decide (b < 0) || decide (l.getD i 0>l.getD b.toNat 0))))=true then (i:Int)else b) (-1)
def Di (zs:List vL) (l:List Int) (i:Nat):Bool:=decide ((i:Int)=vM zs l l.length) || ((zs.getD i ⟨⟨#[]⟩,false,[]⟩).overlay&&decide (l.getD i 0>0))
def ofZ (zs:List vL) (area:List aj):List ByteArray:=((List.range (wJ zs area).length).filter (Di zs (wJ zs area))).map fun i=>(zs.getD i ⟨⟨#[]⟩,false,[]⟩).name
theorem OI (zs:List vL) (l:List Int):∀ m,vM zs l m= -1∨∃ k:Nat,k < m∧vM zs l m=(k:Int)
 | 0=> .inl rfl
 |m+1=>by
  have ih:=OI zs l m;unfold vM;rw[List.range_succ,List.foldl_append];simp only[foldl_cons,List.foldl_nil];split
  ·exact .inr ⟨m,by omega,rfl⟩
  ·rcases ih with h |⟨k,h1,h2⟩
   ·exact .inl h
   ·exact .inr ⟨k,by omega,h2⟩
theorem FE {α:Type} {l:List α} {i:Nat} (d:α) (h:i < l.length):l.getD i d=l[i]:=by simp[h]
theorem M0 {n:Nat} (p:xM) (l:List Int) (hl:l.length<=p.zones.length) (hz:p.zones.length<=100) (hn:2000<=n):iter (mV p l) n (((-1):Int),(0:Int))=some (vM p.zones l l.length):=by
 have main:=eO (step:=mV p l) (fun i=>(vM p.zones l i,((i:Nat):Int))) l.length (vM p.zones l l.length) (fun i hi=>?_) (by simp[mV]) n (by omega)
 ·exact main
 ·have hz':i < p.zones.length:=by omega
  have e:vM p.zones l (i+1)=if (!(p.zones[i]).overlay&&(decide (l[i]>0)&&(decide (vM p.zones l i < 0) || decide (l[i]>l.getD (vM p.zones l i).toNat 0))))=true then (i:Int)else vM p.zones l i:=by
   conv=>lhs;unfold vM
   rw[List.range_succ,List.foldl_append];simp only[foldl_cons,List.foldl_nil,FE _ hz',FE _ hi];rfl
  rw[e];rcases OI p.zones l i with h |⟨k,h1,h2⟩
  ·rw[h];have d:decide ((-1:Int) < 0)=true:=rfl;simp only[mV,bq hi,cond_true,bD hi,bV hi,bind_some,aZ hz',d,l8,Bool.true_or,Bool.and_true,ax (show i < 9223372036854775807 by omega)];cases (p.zones[i]).overlay<;>cases decide (l[i]>0)<;>rfl
  ·rw[h2];have d:decide (((k:Nat):Int) < 0)=false:=(by simp);have hk:k < l.length:=(by omega);simp only[mV,bq hi,cond_true,bD hi,bV hi,bind_some,aZ hz',d,l8,Bool.false_or,cond_false,bD hk,bV hk,Int.toNat_natCast,FE _ hk,ax (show i < 9223372036854775807 by omega)];cases (p.zones[i]).overlay<;>cases decide (l[i]>0)<;>cases decide (l[i]>l[k])<;>rfl
theorem XQ {n:Nat} (p:xM) (a:List aj) (hz:p.zones.length<=100) (ha:a.length<=900) (hn:2000<=n):Gu n p a=some (ofZ p.zones a):=by
 unfold Gu;have sl:=OH p.zones a;rw[MZ p a hz ha hn];simp only[bind_some];rw[M0 p _ sl hz hn];simp only[bind_some,length_nil,aB,cond_true];unfold ofZ;generalize hL:wJ p.zones a=l at*
 have:=bF (l:=List.range l.length) (step:=wo p l (vM p.zones l l.length)) (fun i (s:List ByteArray)=>((i:Int),s)) (fun i s=>bif Di p.zones l i then s++[(p.zones.getD i ⟨⟨#[]⟩,false,[]⟩).name]else s) (fun s=>s) (fun i s=>s.length<=i)
  (fun i hi s hs=>?_) (fun s hs=>by rw[List.length_range];simp[wo]) n (by rw[List.length_range];omega) [] (Nat.le_refl _)
 ·rw[show ((0:Nat):Int)=0 from rfl]at this;simp only[this,bind_some,bB,aB,cond_true];congr 1;have gen:∀ (ys:List Nat) (s:List ByteArray),ys.foldl (fun s i=>bif Di p.zones l i then s++[(p.zones.getD i ⟨⟨#[]⟩,false,[]⟩).name]else s) s=s++(ys.filter (Di p.zones l)).map fun i=>(p.zones.getD i ⟨⟨#[]⟩,false,[]⟩).name:=by
   intro ys
   induction ys with
   |nil=>intro s;simp
   |cons y ys ih=>
    intro s;rw[foldl_cons,ih,List.filter_cons];cases Di p.zones l y<;>simp
  exact gen (List.range l.length) []
 ·rw[List.length_range]at hi;have hz':i < p.zones.length:=by omega
  rw[List.getElem_range];have ap:bG s.length s.length (sub ([(p.zones[i]).name]:List ByteArray) 0 1).length 1 16=true:=bE (n:=1) (by omega) (by simp only[maxLen];omega);have hb:(((i:Nat):Int)==vM p.zones l l.length)=decide (((i:Nat):Int)=vM p.zones l l.length):=by rw[Bool.eq_iff_iff];simp
  simp only[wo,bq hi,cond_true,bD hi,bV hi,bind_some,aZ hz',hb,l8,ap,dF,aB,Di,FE _ hz',FE _ hi,ax (show i < 9223372036854775807 by omega)];cases decide (((i:Nat):Int)=vM p.zones l l.length)<;>cases (p.zones[i]).overlay<;>cases decide (l[i]>0)<;>refine⟨rfl,?_⟩<;>simp<;>omega
theorem agH (zs:List vL) (a:List aj):(ofZ zs a).length<=zs.length:=by
 unfold ofZ;rw[length_map];have h1:=length_filter_le (Di zs (wJ zs a)) (List.range (wJ zs a).length);rw[List.length_range]at h1;have:=OH zs a;omega
def sEq (a b:ByteArray):Bool:=ByteArray.toList a==ByteArray.toList b
theorem Eg {n:Nat} {l:List ByteArray} {a:ByteArray} (hl:l.length < 1099511627776) (hn:l.length < n):kF n l a=some (l.any (sEq a)):=by
 unfold kF;have e:ve n l a=Xu n (fun x=>ByteArray.toList a==ByteArray.toList x) l:=by kernel_rfl
 rw[e,Zx hl hn,bind_some,Kc];rfl
theorem nG {n:Nat} {l:List ByteArray} {φ:(ByteArray×Unit)->Option Bool} (p:ByteArray->Bool) (h:∀ x∈l,φ (x,())=some (p x)) (hl:l.length < 1099511627776) (hn:l.length < n):dP n l φ=some (l.any p):=by
 unfold dP;have e:nN n l φ=tY n l φ:=by kernel_rfl
 rw[e,oF p h hl hn,bind_some,Kc]
def Qn (r:eU) (zs:List ByteArray):Bool:=(decide (r.zones=[]) || r.zones.any fun z=>zs.any (sEq z))&&!(r.except.any fun z=>zs.any (sEq z))
theorem M4 {n:Nat} (r:eU) (zs:List ByteArray) (h1:r.zones.length<=100) (h2:r.except.length<=100) (h3:zs.length<=100) (hn:2000<=n):og n r zs=some (Qn r zs):=by
 have hf:∀ x:ByteArray,iq n x zs=some (zs.any (sEq x)):=fun x=>by unfold iq;rw[Eg (by omega) (by omega)];rfl
 unfold og Qn;rw[nG (fun z=>zs.any (sEq z)) (fun x _=>hf x) (by omega) (by omega),nG (fun z=>zs.any (sEq z)) (fun x _=>hf x) (by omega) (by omega)];simp only[bind_some,l8];have e:(((r.zones.length:Nat):Int)==0)=decide (r.zones=[]):=by
  rw[Bool.eq_iff_iff,beq_iff_eq,decide_eq_true_eq];constructor
  ·intro h;exact List.length_eq_zero_iff.1 (by omega)
  ·intro h;rw[h];rfl
 rw[e];cases decide (r.zones=[])<;>cases (r.zones.any fun z=>zs.any (sEq z))<;>cases (r.except.any fun z=>zs.any (sEq z))<;>rfl
def mg (zs:List ByteArray) (day:Int) (r:eU):Bool:=decide (r.from_<=day)&&((r.until_==0 || decide (day < r.until_))&&Qn r zs)
def M5 (rules:List eU) (zs:List ByteArray) (day:Int):List Nat:=(List.range rules.length).filter fun i=>(rules[i]?).any (mg zs day)
abbrev afG (r:eU):Prop:=r.zones.length<=100∧r.except.length<=100
theorem Pb {n:Nat} (p:xM) (zs:List ByteArray) (day:Int) (hr:∀ r∈p.rules,afG r) (hl:p.rules.length<=100) (h3:zs.length<=100) (hn:2000<=n):wu n p zs day=some ((M5 p.rules zs day).map fun (i:Nat)=>(i:Int)):=by
 unfold wu M5
 have:=bF (l:=List.range p.rules.length) (step:=oH n p zs day) (fun i (s:List Int)=>((i:Int),s)) (fun i s=>bif (p.rules[i]?).any (mg zs day)then s++[((i:Nat):Int)]else s) (fun s=>s) (fun i s=>s.length<=i)
  (fun i hi s hs=>?_) (fun s hs=>by rw[List.length_range];simp[oH]) n (by rw[List.length_range];omega) [] (Nat.le_refl _)
 ·rw[show ((0:Nat):Int)=0 from rfl]at this;simp only[length_nil,aB,cond_true,this,bind_some,bB];congr 1;have gen:∀ (ys:List Nat) (s:List Int),ys.foldl (fun s i=>bif (p.rules[i]?).any (mg zs day)then s++[((i:Nat):Int)]else s) s=s++(ys.filter fun i=>(p.rules[i]?).any (mg zs day)).map fun (i:Nat)=>(i:Int):=by
   intro ys
   induction ys with
   |nil=>intro s;simp
   |cons y ys ih=>
    intro s;rw[foldl_cons,ih,List.filter_cons];cases (p.rules[y]?).any (mg zs day)<;>simp
  exact gen (List.range p.rules.length) []
 ·rw[List.length_range]at hi;rw[List.getElem_range];obtain⟨o1,o2⟩:=hr _ (getElem_mem hi);have ap:bG s.length s.length (sub ([((i:Nat):Int)]:List Int) 0 1).length 1 8=true:=bE (n:=1) (by omega) (by simp only[maxLen];omega);have eg:(p.rules[i]?).any (mg zs day)=mg zs day p.rules[i]:=by rw[List.getElem?_eq_getElem hi];rfl
  rw[eg];simp only[oH,bq hi,cond_true,aZ hi,bind_some,M4 _ zs o1 o2 h3 hn,l8,ap,dF,aB,mg,ax (show i < 9223372036854775807 by omega)];cases decide ((p.rules[i]).from_<=day)<;>cases (p.rules[i]).until_==0<;>cases decide (day < (p.rules[i]).until_)<;>cases Qn p.rules[i] zs<;>refine⟨rfl,?_⟩<;>simp<;>omega
end Go.Proofs
