/-
  What the printed functions of package slices and cmp come to.
-/
import Derived.Test.YtaajfjagnnajdaaGreatTD2
open Go.IntKind (i64)
open Option (bind_some)
open List (map_cons mem_cons mem_append length_take mem_map all_eq_true mem_singleton nil_append length_append getElem_mem length_cons length_map append_nil length_nil take_succ_eq_append_getElem foldl_cons any_eq_true mem_cons_self length_singleton pairwise_cons map_nil filter_append length_filter_le map_append pairwise_append getElem_drop)
open Bool (and_eq_true)
namespace Go.Proofs
open Go.Gb Go.RowKit
abbrev ltI (a b:Int):Bool:=decide (a < b)
theorem Ow (a b:Int):cmp_Less_int a b=some (ltI a b):=by simp[cmp_Less_int,cmp_isNaN_int]
theorem xR (a b:Int):cmp_Compare_int a b=some (if a < b then -1 else if b < a then 1 else 0):=by
 by_cases h1:a < b
 ·simp[cmp_Compare_int,cmp_isNaN_int,h1]
 ·by_cases h2:b < a
  ·simp[cmp_Compare_int,cmp_isNaN_int,h1,h2]
  ·simp[cmp_Compare_int,cmp_isNaN_int,h1,h2]
theorem TB {x:Nat} (k:Nat) (h:2 ^ k<=x):Go.Sort.bitsLen x=Go.Sort.bitsLen (x/2 ^ k)+k:=by
 have key:∀ m,Go.Sort.bitsLen x<=m+k↔Go.Sort.bitsLen (x/2 ^ k)<=m:=by
  intro m;rw[Go.Sort.bitsLen_le_iff,Go.Sort.bitsLen_le_iff,Nat.pow_add,Nat.div_lt_iff_lt_mul (Nat.two_pow_pos k)]
 have h1:=(key (Go.Sort.bitsLen (x/2 ^ k))).2 (Nat.le_refl _);have hk:k<=Go.Sort.bitsLen x:=by
  rcases Nat.lt_or_ge (Go.Sort.bitsLen x) k with hlt |hge
  ·have:=(Go.Sort.bitsLen_le_iff x (Go.Sort.bitsLen x)).1 (Nat.le_refl _);have h2:2 ^ Go.Sort.bitsLen x<=2 ^ k:=Nat.pow_le_pow_right (by omega) (by omega);omega
  ·exact hge
 have h2:=(key (Go.Sort.bitsLen x - k)).1 (by omega);omega
theorem agh {v:Nat} (h:v < 256):IntKind.u8.wrap ((v:Nat):Int)=(v:Int):=by
 simp only[IntKind.wrap,IntKind.bits,IntKind.signed,Bool.false_and,Bool.false_eq_true,if_false];omega
set_option maxRecDepth 100000 in
theorem uy {x:Nat} (hx:x < 1152921504606846976):bits_Len (x:Int)=some ((Go.Sort.bitsLen x:Nat):Int):=by
 unfold bits_Len bits_Len64;have tab:∀ v:Fin 256,Uv (⟨#[0,1,2,2,3,3,3,3,4,4,4,4,4,4,4,4,5,5,5,5,5,5,5,5,5,5,5,5,5,5,5,5,6,6,6,6,6,6,6,6,6,6,6,6,6,6,6,6,6,6,6,6,6,6,6,6,6,6,6,6,6,6,6,6,7,7,7,7,7,7,7,7,7,7,7,7,7,7,7,7,7,7,7,7,7,7,7,7,7,7,7,7,7,7,7,7,7,7,7,7,7,7,7,7,7,7,7,7,7,7,7,7,7,7,7,7,7,7,7,7,7,7,7,7,7,7,7,7,8,8,8,8,8,8,8,8,8,8,8,8,8,8,8,8,8,8,8,8,8,8,8,8,8,8,8,8,8,8,8,8,8,8,8,8,8,8,8,8,8,8,8,8,8,8,8,8,8,8,8,8,8,8,8,8,8,8,8,8,8,8,8,8,8,8,8,8,8,8,8,8,8,8,8,8,8,8,8,8,8,8,8,8,8,8,8,8,8,8,8,8,8,8,8,8,8,8,8,8,8,8,8,8,8,8,8,8,8,8,8,8,8,8,8,8,8,8,8,8,8,8,8,8,8,8,8,8]⟩) ((v.val:Nat):Int)=some ((Go.Sort.bitsLen v.val:Nat):Int):=by decide +kernel
 have k32:(decide (0<=32)&&decide (32<=IntKind.u64.bits))=true:=rfl;have k16:(decide (0<=16)&&decide (16<=IntKind.u64.bits))=true:=rfl;have k8:(decide (0<=8)&&decide (8<=IntKind.u64.bits))=true:=rfl;have step:∀ (x k s:Nat),∃ y t:Nat,((bif (decide ((x:Int)>=((2 ^ k:Nat):Int)))then some (((x/2 ^ k:Nat):Int),((s+k:Nat):Int))else some ((x:Int),(s:Int))):Option (Int×Int))=some ((y:Int),(t:Int))∧Go.Sort.bitsLen x+s=Go.Sort.bitsLen y+t∧(y < 2 ^ k∨y=x/2 ^ k)∧t<=s+k:=by
  intro x k s;by_cases h:2 ^ k<=x
  ·have c:decide ((x:Int)>=((2 ^ k:Nat):Int))=true:=(by rw[decide_eq_true_eq];omega);refine⟨x/2 ^ k,s+k,by rw[c];rfl,?_,.inr rfl,Nat.le_refl _⟩;have:=TB k h;omega
  ·have c:decide ((x:Int)>=((2 ^ k:Nat):Int))=false:=(by rw[decide_eq_false_iff_not];omega);exact⟨x,s,by rw[c];rfl,rfl,.inl (by omega),by omega⟩
 have sh:∀ (v k:Nat),((v:Int)/2 ^ ((k:Nat):Int).toNat)=((v/2 ^ k:Nat):Int):=by
  intro v k;rw[Int.toNat_natCast]
  push_cast
  rfl
 obtain⟨y1,t1,e1,b1,c1,d1⟩:=step x 32 0;obtain⟨y2,t2,e2,b2,c2,d2⟩:=step y1 16 t1;obtain⟨y3,t3,e3,b3,c3,d3⟩:=step y2 8 t2;have s1:((bif (decide ((x:Int)>=(4294967296:Int)))then bif ((decide (0<=32)&&decide (32<=IntKind.u64.bits)))then some (((x:Int)/2 ^ (32:Int).toNat),(32:Int))else none else some ((x:Int),(0:Int))):Option (Int×Int))=some ((y1:Int),(t1:Int)):=by
  rw[k32,<- e1];rw[show ((x:Int)/2 ^ (32:Int).toNat)=((x/2 ^ 32:Nat):Int)from sh x 32];rfl
 have s2:((bif (decide ((y1:Int)>=(65536:Int)))then bif ((decide (0<=16)&&decide (16<=IntKind.u64.bits)))then some (((y1:Int)/2 ^ (16:Int).toNat),(i64.wrap ((t1:Int)+16)))else none else some ((y1:Int),(t1:Int))):Option (Int×Int))=some ((y2:Int),(t2:Int)):=by
  rw[k16,<- e2];rw[show ((y1:Int)/2 ^ (16:Int).toNat)=((y1/2 ^ 16:Nat):Int)from sh y1 16,show i64.wrap ((t1:Int)+16)=((t1+16:Nat):Int)from Mr (j:=16) (by omega)];rfl
 have s3:((bif (decide ((y2:Int)>=(256:Int)))then bif ((decide (0<=8)&&decide (8<=IntKind.u64.bits)))then some (((y2:Int)/2 ^ (8:Int).toNat),(i64.wrap ((t2:Int)+8)))else none else some ((y2:Int),(t2:Int))):Option (Int×Int))=some ((y3:Int),(t3:Int)):=by
  rw[k8,<- e3];rw[show ((y2:Int)/2 ^ (8:Int).toNat)=((y2/2 ^ 8:Nat):Int)from sh y2 8,show i64.wrap ((t2:Int)+8)=((t2+8:Nat):Int)from Mr (j:=8) (by omega)];rfl
 have hy:y3 < 256:=by
  have q1:(2:Nat) ^ 32=4294967296:=rfl;have q2:(2:Nat) ^ 16=65536:=rfl;have q3:(2:Nat) ^ 8=256:=rfl;rw[q1]at c1;rw[q2]at c2;rw[q3]at c3;omega
 simp only[s1,bind_some,s2,s3];rw[agh hy,show Uv _ ((y3:Nat):Int)=_ from tab ⟨y3,hy⟩];have hb:Go.Sort.bitsLen y3<=8:=(Go.Sort.bitsLen_le_iff _ _).2 (by simpa using hy);simp only[bind_some];rw[nQ (by omega),Mr (by omega)];congr 2;omega
theorem abv:UZ aK:=by
 intro L h8 hL;have hb:Go.Sort.bitsLen L<=60:=(Go.Sort.bitsLen_le_iff _ _).2 (by omega);have hp:2 ^ Go.Sort.bitsLen L<=2 ^ 60:=Nat.pow_le_pow_right (by omega) hb;unfold aK;rw[kQ (by omega),uy hL,bind_some];have c:(decide ((0:Int)<=((Go.Sort.bitsLen L:Nat):Int))&&decide (((Go.Sort.bitsLen L:Nat):Int)<=((IntKind.u64.bits:Nat):Int)))=true:=by
  have:((IntKind.u64.bits:Nat):Int)=64:=rfl;rw[this,and_eq_true,decide_eq_true_eq,decide_eq_true_eq];omega
 rw[c,cond_true,Int.toNat_natCast,Int.one_mul,show ((2:Int) ^ Go.Sort.bitsLen L)=((2 ^ Go.Sort.bitsLen L:Nat):Int)by push_cast;rfl,kQ (by omega)]
theorem abw:Rw aL:=by
 intro r hr;have c13:(decide (0<=13)&&decide (13<=IntKind.u64.bits))=true:=rfl;have c7:(decide (0<=7)&&decide (7<=IntKind.u64.bits))=true:=rfl;have c17:(decide (0<=17)&&decide (17<=IntKind.u64.bits))=true:=rfl;have sl:∀ (v k:Nat),IntKind.u64.wrap ((v:Int)*2 ^ ((k:Nat):Int).toNat)=((v*2 ^ k%18446744073709551616:Nat):Int):=by
  intro v k;rw[Int.toNat_natCast,show ((v:Int)*2 ^ k)=((v*2 ^ k:Nat):Int)by push_cast;rfl];simp only[IntKind.wrap,IntKind.bits,IntKind.signed,Bool.false_and,Bool.false_eq_true,if_false];omega
 have sr:∀ (v k:Nat),((v:Int)/2 ^ ((k:Nat):Int).toNat)=((v/2 ^ k:Nat):Int):=by
  intro v k;rw[Int.toNat_natCast];push_cast;rfl
 have ha:r ^^^ (r*2 ^ 13%18446744073709551616) < 18446744073709551616:=Nat.xor_lt_two_pow (n:=64) (by omega) (by omega);have hb:(r ^^^ (r*2 ^ 13%18446744073709551616)) ^^^ ((r ^^^ (r*2 ^ 13%18446744073709551616))/2 ^ 7) < 18446744073709551616:=Nat.xor_lt_two_pow (n:=64) (by omega) (by omega);unfold aL;rw[c13,c7,c17];simp only[cond_true];rw[show IntKind.u64.wrap ((r:Int)*2 ^ (13:Int).toNat)=((r*2 ^ 13%18446744073709551616:Nat):Int)from sl r 13,Rv hr (by omega)];rw[show (((r ^^^ (r*2 ^ 13%18446744073709551616):Nat):Int)/2 ^ (7:Int).toNat)=_ from sr _ 7,Rv ha (by omega)];rw[show IntKind.u64.wrap (((((r ^^^ (r*2 ^ 13%18446744073709551616)) ^^^ ((r ^^^ (r*2 ^ 13%18446744073709551616))/2 ^ 7):Nat)):Int)*2 ^ (17:Int).toNat)=_ from sl _ 17,Rv hb (by omega)];rfl
theorem Pq:Go.Sort.SWO ltI where
 irrefl x:=by simp[ltI]
 trans x y z h1 h2:=by simp only[ltI,decide_eq_true_eq]at *;omega
 ntrans x y z h1 h2:=by simp only[ltI,decide_eq_false_iff_not]at *;omega
theorem U5:∀ {l m:List Int},l.Perm m->l.Pairwise (fun x y=>ltI y x=false)->m.Pairwise (fun x y=>ltI y x=false)->l=m
 |[],m,h,_,_=>(List.nil_perm.1 h).symm
 |x::l,[],h,_,_=>by have:=h.length_eq;simp at this
 |x::l,y::m,h,h1,h2=>by
  have e:x=y:=by
   rw[pairwise_cons]at h1 h2;have m1:x∈y::m:=h.mem_iff.1 mem_cons_self;have m2:y∈x::l:=h.mem_iff.2 mem_cons_self;rcases mem_cons.1 m1 with e |m1
   ·exact e
   ·rcases mem_cons.1 m2 with e |m2
    ·exact e.symm
    ·have a:=h1.1 y m2;have b:=h2.1 x m1;simp only[ltI,decide_eq_false_iff_not]at a b;omega
  subst e;rw[pairwise_cons]at h1 h2;rw[U5 (List.Perm.cons_inv h) h1.2 h2.2]
theorem GD {α:Type} (lt:α->α->Bool) (x:α):∀ ys:List α,(j5 lt x ys).Perm (x::ys)
 |[]=>List.Perm.refl _
 |y::ys=>by
  simp only[j5];cases lt x y with
  |true=>exact ((GD lt x ys).cons y).trans (List.Perm.swap x y ys)
  |false=>exact List.Perm.refl _
theorem Jo {α:Type} (lt:α->α->Bool) (l:List α):(rf lt l).Perm l:=by
 have gen:∀ (xs rs:List α),(xs.foldl (fun rs x=>j5 lt x rs) rs).Perm (xs++rs):=by
  intro xs
  induction xs with
  |nil=>intro rs;exact List.Perm.refl _
  |cons x xs ih=>
   intro rs;refine (ih _).trans ?_;refine ((GD lt x rs).append_left xs).trans ?_;exact List.perm_middle
 unfold rf;exact (List.reverse_perm _).trans (by simpa using gen l [])
theorem insRev_sorted {α:Type} {lt:α->α->Bool} (hS:Go.Sort.SWO lt) (x:α):∀ ys:List α,ys.Pairwise (fun a b=>lt a b=false)->(j5 lt x ys).Pairwise fun a b=>lt a b=false
 |[],_=>by simp[j5]
 |y::ys,h=>by
  have h':=pairwise_cons.1 h;simp only[j5];cases hxy:lt x y with
  |true=>
   rw[cond_true,pairwise_cons];refine⟨fun z hz=>?_,insRev_sorted hS x ys h'.2⟩;rcases mem_cons.1 ((GD lt x ys).mem_iff.1 hz)with rfl |hz
   ·cases hyx:lt y z with
    |false=>rfl
    |true=>have:=hS.trans _ _ _ hxy hyx;rw[hS.irrefl]at this;cases this
   ·exact h'.1 z hz
  |false=>
   rw[cond_false,pairwise_cons];refine⟨fun z hz=>?_,h⟩;rcases mem_cons.1 hz with rfl |hz
   ·exact hxy
   ·exact hS.ntrans _ _ _ hxy (h'.1 z hz)
theorem isort_sorted {α:Type} {lt:α->α->Bool} (hS:Go.Sort.SWO lt) (l:List α):(rf lt l).Pairwise fun x y=>lt y x=false:=by
 have gen:∀ (xs rs:List α),rs.Pairwise (fun a b=>lt a b=false)->(xs.foldl (fun rs x=>j5 lt x rs) rs).Pairwise fun a b=>lt a b=false:=by
  intro xs
  induction xs with
  |nil=>intro rs h;exact h
  |cons x xs ih=>intro rs h;exact ih _ (insRev_sorted hS x rs h)
 unfold rf;rw[List.pairwise_reverse];exact gen l [] List.Pairwise.nil
theorem acC (l:List Int):rq ltI l=rf ltI l:=
 U5 ((xG Pq l).trans (Jo ltI l).symm) (DK Pq l) (isort_sorted Pq l)
theorem Yv (n:Nat):∀ m,dX n m=dK cmp_Less_int (fun r=>r) aK aL n m
 | 0=>rfl
 |m+1=>by
  show jP n (dX n m)=fT cmp_Less_int (fun r=>r) aK aL n (dK cmp_Less_int (fun r=>r) aK aL n m);rw[Yv n m];generalize dK cmp_Less_int (fun r=>r) aK aL n m=rc
  kernel_rfl
theorem xS {n:Nat} {l:List Int} (hl:l.length < 1099511627776) (hn:l.length < n):o9 n l=some (rf ltI l):=by
 unfold o9 kV;rw[kQ (by omega),uy (by omega),Yv];simp only[bind_some,aA,cond_true];rw[pY (lt:=ltI) Pq (f:=ltI) (q:=fun r=>r) Ow (fun _ _=>rfl) abv abw (by omega) hn hn,acC];rfl
theorem Ab {n:Nat} {l:List Int} (hl:l.length < 1099511627776) (hn:l.length < n):qd n l=some ((),lN l):=by
 rw[<- Yq];exact IV (eq:=fun x y=>x==y) (ne:=fun x y=>x != y) (fun x y=>by simp[bne]) hl hn
theorem MC {l:List au} (h:l.length < 1099511627776):Aw l=some l:=tV (b:=32) (by omega) (by simp only[maxLen];omega)
theorem u6 {l:List Int} (h:l.length < 1099511627776):ku l=some l:=tV (b:=8) (by omega) (by simp only[maxLen];omega)
theorem KV {n:Nat} {l:List (List au)} (hf:l.flatten.length < 1099511627776) (hl:l.length < 1099511627776) (hn:l.length < n):xJ n l=some l.flatten:=Wu (au.mk 0 0 0 0) (b:=32) hf (by omega) hl hn
theorem ME {n:Nat} {a b:List au} (hl:a.length < 1099511627776) (hn:a.length < n):nW n a b=some (decide (a=b)):=by
 have e:nW n a b=Ph n (fun x1 x2:au=>!((x1.x0==(x2.x0:Int))&&((x1.y0==(x2.y0:Int))&&((x1.x1==(x2.x1:Int))&&((x1.y1==(x2.y1:Int))&&true))))) a b:=by kernel_rfl
 rw[e];refine NY (fun x y=>?_) hl hn;obtain⟨a,b,c,d⟩:=x;obtain⟨e,f,g,h⟩:=y;simp only[au.mk.injEq,Bool.and_true];rw[Bool.eq_iff_iff];simp
theorem Ci {n:Nat} {a b:List aD} (hl:a.length < 1099511627776) (hn:a.length < n):sZ n a b=some (decide (a=b)):=by
 have e:sZ n a b=Ph n (fun x1 x2:aD=>!((x1.from_==(x2.from_:Int))&&((x1.to==(x2.to:Int))&&true))) a b:=by kernel_rfl
 rw[e];refine NY (fun x y=>?_) hl hn;obtain⟨a,b⟩:=x;obtain⟨c,d⟩:=y;simp only[aD.mk.injEq,Bool.and_true];rw[Bool.eq_iff_iff];simp
abbrev ltS (a b:aD):Bool:=decide (a.from_ < b.from_)
theorem KW:Go.Sort.SWO ltS where
 irrefl x:=by simp[ltS]
 trans x y z h1 h2:=by simp only[ltS,decide_eq_true_eq]at *;omega
 ntrans x y z h1 h2:=by simp only[ltS,decide_eq_false_iff_not]at *;omega
instance:Inhabited aD:=⟨⟨0,0⟩⟩
theorem acD (n:Nat) (rc:List aD->Int->Int->Int->((aD×aD×Unit)->Option Int)->Option (List aD)) (φ:(aD×aD×Unit)->Option Int) (l:List aD) (a b d:Int):fV n rc l a b d φ=fT (fun x y=>φ (x,y,())) (fun r=>decide (r < 0)) aK aL n (fun l a b d=>rc l a b d φ) l a b d:=by kernel_rfl
theorem U6 (n:Nat) (φ:(aD×aD×Unit)->Option Int):∀ m l a b d,bY n m l a b d φ=dK (fun x y=>φ (x,y,())) (fun r=>decide (r < 0)) aK aL n m l a b d
 | 0,l,a,b,d=>rfl
 |m+1,l,a,b,d=>by
  have e:(fun l a b d=>bY n m l a b d φ)=dK (fun x y=>φ (x,y,())) (fun r=>decide (r < 0)) aK aL n m:=by
   funext l a b d;exact U6 n φ m l a b d
  show fV n (bY n m) l a b d φ=fT (fun x y=>φ (x,y,())) (fun r=>decide (r < 0)) aK aL n (dK (fun x y=>φ (x,y,())) (fun r=>decide (r < 0)) aK aL n m) l a b d;rw[<- e];exact acD n (bY n m) φ l a b d
theorem Ig {n:Nat} {l:List aD} {φ:(aD×aD×Unit)->Option Int} (f:aD->aD->Int) (hφ:∀ x y,φ (x,y,())=some (f x y)) (hf:∀ x y,decide (f x y < 0)=ltS x y) (hl:l.length < 1099511627776) (hn:l.length < n):mh n l φ=some (rq ltS l):=by
 unfold mh kz;rw[kQ (by omega),uy (by omega)];simp only[bind_some,aA,cond_true,U6];rw[pY (lt:=ltS) KW (f:=f) (q:=fun r=>decide (r < 0)) hφ hf abv abw (by omega) hn hn];rfl
def mrg (out:List aD) (s:aD):List aD:=
 match out.getLast? with
 |some q=>bif decide (s.from_<=q.to)then out.dropLast++[⟨q.from_,max q.to s.to⟩]else out++[s]
 |none=>[s]
theorem RD (out:List aD) (s:aD):(mrg out s).length<=out.length+1:=by
 unfold mrg;cases out.getLast? with
 |none=>simp
 |some q=>simp only;cases decide (s.from_<=q.to)<;>simp<;>omega
theorem aak (o:List aD) (q s:aD):mrg (o++[q]) s=bif decide (s.from_<=q.to)then o++[⟨q.from_,max q.to s.to⟩]else o++[q]++[s]:=by simp[mrg]
abbrev OkS (s:aD):Prop:=s.from_ < s.to
def inS (l:List aD) (y:Int):Bool:=l.any fun s=>decide (s.from_<=y)&&decide (y < s.to)
def Can (l:List aD):Prop:=l.Pairwise (fun a b=>a.to < b.from_)∧∀ s∈l,OkS s
theorem WH (l:List aD) (y:Int):inS l y=true↔∃ s∈l,s.from_<=y∧y < s.to:=by simp[inS]
theorem D5 (l m:List aD) (y:Int):inS (l++m) y=(inS l y || inS m y):=by simp[inS]
theorem HV (y:Int):inS [] y=false:=rfl
theorem lT (s:aD) (l:List aD) (y:Int):inS (s::l) y=((decide (s.from_<=y)&&decide (y < s.to)) || inS l y):=by simp[inS]
theorem Yw {l m:List aD} (h:l.Perm m) (y:Int):inS l y=inS m y:=by
 rw[Bool.eq_iff_iff,WH,WH];exact⟨fun ⟨s,hs,h1⟩=>⟨s,h.mem_iff.1 hs,h1⟩,fun⟨s,hs,h1⟩=>⟨s,h.mem_iff.2 hs,h1⟩⟩
theorem abx:Can []:=⟨List.Pairwise.nil,by simp⟩
theorem ad2 {out:List aD} {s:aD} (hc:Can out) (hs:OkS s) (hb:∀ o∈out,o.from_<=s.from_):
 Can (mrg out s)∧(∀ o∈mrg out s,o.from_<=s.from_)∧∀ y,inS (mrg out s) y=(inS out y || inS [s] y):=by
 rcases List.eq_nil_or_concat out with rfl |⟨o,q,rfl⟩
 ·refine⟨⟨by simp[mrg],by simp[mrg];exact hs⟩,by simp[mrg],fun y=>by simp[mrg,inS]⟩
 ·rw[List.concat_eq_append]at*;obtain⟨h1,h2⟩:=hc;rw[pairwise_append]at h1;obtain⟨p1,_,p3⟩:=h1;have hq:OkS q:=h2 q (by simp);have hqs:q.from_<=s.from_:=hb q (by simp);rw[aak];by_cases hj:s.from_<=q.to
  ·simp only[hj,decide_true,cond_true];refine⟨⟨?_,?_⟩,?_,?_⟩
   ·rw[pairwise_append];refine⟨p1,by simp,fun a ha b hb'=>?_⟩;rw[mem_singleton]at hb';subst hb';exact p3 a ha q (by simp)
   ·intro a ha;rcases mem_append.1 ha with ha |ha
    ·exact h2 a (by simp[ha])
    ·rw[mem_singleton]at ha;subst ha;show q.from_ < max q.to s.to;have:q.from_ < q.to:=hq;omega
   ·intro a ha;rcases mem_append.1 ha with ha |ha
    ·exact hb a (by simp[ha])
    ·rw[mem_singleton]at ha;subst ha;exact hqs
   ·intro y;rw[D5,D5,Bool.or_assoc];congr 1;simp only[lT,HV,Bool.or_false];rw[Bool.eq_iff_iff];simp only[and_eq_true,Bool.or_eq_true,decide_eq_true_eq];have:q.from_ < q.to:=hq;have:s.from_ < s.to:=hs;omega
  ·simp only[hj,decide_false,cond_false];refine⟨⟨?_,?_⟩,?_,?_⟩
   ·rw[pairwise_append];refine⟨?_,by simp,fun a ha b hb'=>?_⟩
    ·rw[pairwise_append];exact⟨p1,by simp,p3⟩
    ·rw[mem_singleton]at hb';subst hb';rcases mem_append.1 ha with ha |ha
     ·have:=p3 a ha q (by simp);have:q.from_ < q.to:=hq;omega
     ·rw[mem_singleton]at ha;subst ha;omega
   ·intro a ha;rcases mem_append.1 ha with ha |ha
    ·exact h2 a ha
    ·rw[mem_singleton]at ha;subst ha;exact hs
   ·intro a ha;rcases mem_append.1 ha with ha |ha
    ·exact hb a ha
    ·rw[mem_singleton]at ha;subst ha;exact Int.le_refl _
   ·intro y;rw[D5]
theorem MF:∀ (l out:List aD),Can out->(∀ s∈l,OkS s)->l.Pairwise (fun x y=>x.from_<=y.from_)->(∀ o∈out,∀ s∈l,o.from_<=s.from_)->Can (l.foldl mrg out)∧∀ y,inS (l.foldl mrg out) y=(inS out y || inS l y)
 |[],out,hc,_,_,_=>⟨hc,fun y=>by simp[HV]⟩
 |s::l,out,hc,hv,hp,hb=>by
  rw[pairwise_cons]at hp;obtain⟨m1,m2,m3⟩:=ad2 hc (hv s (by simp)) (fun o ho=>hb o ho s (by simp));obtain⟨f1,f2⟩:=MF l (mrg out s) m1 (fun t ht=>hv t (by simp[ht])) hp.2 (fun o ho t ht=>Int.le_trans (m2 o ho) (hp.1 t ht));refine⟨f1,fun y=>?_⟩;rw[foldl_cons,f2,m3,Bool.or_assoc,<- D5];rfl
theorem Yx {a:aD} {l:List aD} (h:Can (a::l)):Can l:=⟨(pairwise_cons.1 h.1).2,fun s hs=>h.2 s (by simp[hs])⟩
theorem HY {a:aD} {l:List aD} (h:Can (a::l)) {y:Int} (hy:inS l y=true):a.to < y:=by
 obtain⟨s,hs,h1,_⟩:=(WH _ _).1 hy;have:=(pairwise_cons.1 h.1).1 s hs;omega
theorem U7 {a:aD} {l:List aD} (h:Can (a::l)) {y:Int} (hy:inS (a::l) y=true):a.from_<=y:=by
 rw[lT,Bool.or_eq_true]at hy;rcases hy with hy |hy
 ·simp only[and_eq_true,decide_eq_true_eq]at hy;exact hy.1
 ·have:=HY h hy;have:a.from_ < a.to:=h.2 a (by simp);omega
theorem RF:∀ {l m:List aD},Can l->Can m->(∀ y,inS l y=inS m y)->l=m
 |[],[],_,_,_=>rfl
 |[],b::m,_,hm,h=>by
  have:=h b.from_;have hb:b.from_ < b.to:=hm.2 b (by simp);rw[HV,lT]at this;simp[hb]at this
 |a::l,[],hl,_,h=>by
  have:=h a.from_;have ha:a.from_ < a.to:=hl.2 a (by simp);rw[HV,lT]at this;simp[ha]at this
 |a::l,b::m,hl,hm,h=>by
  have ha:a.from_ < a.to:=hl.2 a (by simp);have hb:b.from_ < b.to:=hm.2 b (by simp);have ina:inS (a::l) a.from_=true:=by rw[lT];simp[ha]
  have inb':inS (b::m) b.from_=true:=by rw[lT];simp[hb]
  have e1:a.from_=b.from_:=by
   have h1:=U7 hm (by rw[<- h];exact ina);have h2:=U7 hl (by rw[h];exact inb');omega
  have nl:∀ (c:aD) (k:List aD),Can (c::k)->inS (c::k) c.to=false:=by
   intro c k hk;cases hc:inS (c::k) c.to with
   |false=>rfl
   |true=>
    rw[lT,Bool.or_eq_true]at hc;rcases hc with hc |hc
    ·simp at hc
    ·have:=HY hk hc;omega
  have e2:a.to=b.to:=by
   rcases Int.lt_trichotomy a.to b.to with hlt |he |hlt
   ·have h1:=nl a l hl;rw[h,lT]at h1;simp only[Bool.or_eq_false_iff,Bool.and_eq_false_iff,decide_eq_false_iff_not]at h1;omega
   ·exact he
   ·have h1:=nl b m hm;rw[<- h,lT]at h1;simp only[Bool.or_eq_false_iff,Bool.and_eq_false_iff,decide_eq_false_iff_not]at h1;omega
  have e:a=b:=by cases a;cases b;simp only at e1 e2;rw[e1,e2]
  subst e;rw[RF (Yx hl) (Yx hm) fun y=>?_];have hy:=h y;rw[lT,lT]at hy;cases h1:inS l y with
  |true=>
   have:=HY hl h1;have z:(decide (a.from_<=y)&&decide (y < a.to))=false:=(by rw[Bool.and_eq_false_iff,decide_eq_false_iff_not,decide_eq_false_iff_not];omega);rw[z,h1,Bool.false_or,Bool.false_or]at hy;rw[<- hy]
  |false=>
   cases h2:inS m y with
   |false=>rfl
   |true=>
    have:=HY hm h2;have z:(decide (a.from_<=y)&&decide (y < a.to))=false:=(by rw[Bool.and_eq_false_iff,decide_eq_false_iff_not,decide_eq_false_iff_not];omega);rw[z,h1,h2]at hy;simp at hy
def aal (l:List aD):List aD:=(rf ltS l).foldl mrg []
theorem ad3 {l:List aD} (h:l.Pairwise fun x y=>ltS y x=false):l.Pairwise fun x y=>x.from_<=y.from_:=
 h.imp fun {x y} hxy=>by simp only[ltS,decide_eq_false_iff_not]at hxy;omega
theorem acE {l:List aD} (h:∀ s∈l,OkS s):Can (aal l)∧∀ y,inS (aal l) y=inS l y:=by
 have hp:=Jo ltS l;obtain⟨h1,h2⟩:=MF (rf ltS l) [] abx (fun s hs=>h s (hp.mem_iff.1 hs)) (ad3 (isort_sorted KW l)) (by simp);exact⟨h1,fun y=>by rw[aal,h2,HV,Bool.false_or,Yw hp]⟩
theorem acF {l:List aD} (h:∀ s∈l,OkS s):(rq ltS l).foldl mrg []=aal l:=by
 have hp:=xG KW l;obtain⟨h1,h2⟩:=MF (rq ltS l) [] abx (fun s hs=>h s (hp.mem_iff.1 hs)) (ad3 (DK KW l)) (by simp);obtain⟨h3,h4⟩:=acE h;exact RF h1 h3 fun y=>by rw[h2,HV,Bool.false_or,Yw hp,h4]
theorem Yy (l:List aD):(aal l).length<=l.length:=by
 have:∀ (ys out:List aD),(ys.foldl mrg out).length<=out.length+ys.length:=by
  intro ys
  induction ys with
  |nil=>intro out;simp
  |cons y ys ih=>
   intro out;simp only[foldl_cons,length_cons];have:=ih (mrg out y);have:=RD out y;omega
 have h:=this (rf ltS l) [];rw[jh]at h;simpa[aal]using h
abbrev OkR (r:au):Bool:=decide (0<=r.x0)&&(decide (r.x0 < r.x1)&&(decide (r.x1<=1048576)&&(decide (0<=r.y0)&&(decide (r.y0 < r.y1)&&decide (r.y1<=1048576)))))
theorem ad4 (a b:Bool):(bif a then some b else some false)=some (a&&b):=by cases a<;>rfl
theorem kF (r:au):qc r=some (OkR r):=by simp only[qc,ad4]
def oJ (l:List au) (x:Int):List aD:=(l.filter fun r=>decide (r.x0<=x)&&decide (x < r.x1)).map fun r=>⟨r.y0,r.y1⟩
def vZ (l:List au) (x:Int):List aD:=aal (oJ l x)
theorem GH (l:List au) (x:Int):(oJ l x).length<=l.length:=by simp only[oJ,length_map];exact length_filter_le _ _
theorem RG (l:List au) (x:Int):(vZ l x).length<=l.length:=
 Nat.le_trans (Yy _) (GH l x)
theorem agY {r:au} (h:OkR r=true):r.y0 < r.y1:=by simp only[OkR,and_eq_true,decide_eq_true_eq]at h;omega
theorem aam {l:List au} (h:∀ r∈l,OkR r=true) (x:Int):∀ s∈oJ l x,OkS s:=by
 intro s hs;simp only[oJ,mem_map,List.mem_filter]at hs;obtain⟨r,⟨hr,_⟩,rfl⟩:=hs;exact agY (h r hr)
theorem MH {l:List au} {x:Int} (hl:l.length < 1099511627776) {n:Nat} (hn:l.length < n):iter (qf l x) n ((0:Int),([]:List aD))=some (oJ l x):=by
 have:=j4 (l:=l) (step:=qf l x) (fun i (s:List aD)=>((i:Int),s)) (fun r s=>bif decide (r.x0<=x)&&decide (x < r.x1)then s++[⟨r.y0,r.y1⟩]else s) (fun s=>s) (fun i s=>s.length<=i)
  (fun i hi s hs=>?_) (fun s hs=>by simp[qf]) n hn [] (Nat.le_refl _)
 ·rw[show ((0:Nat):Int)=0 from rfl]at this;rw[this];congr 1;have gen:∀ (ys:List au) (s:List aD),ys.foldl (fun s r=>bif decide (r.x0<=x)&&decide (x < r.x1)then s++[⟨r.y0,r.y1⟩]else s) s=s++oJ ys x:=by
   intro ys
   induction ys with
   |nil=>intro s;simp[oJ]
   |cons y ys ih=>
    intro s;simp only[foldl_cons,ih];cases h:(decide (y.x0<=x)&&decide (x < y.x1))with
    |true=>simp[oJ,h]
    |false=>simp[oJ,h]
  simpa using gen l []
 ·have hi':decide (((i:Nat):Int) < (l.length:Int))=true:=by simpa using hi
  have ap:bG s.length s.length (sub ([(aD.mk l[i].y0 l[i].y1)]:List aD) 0 1).length 1 16=true:=cZ (n:=1) (by omega) (by simp only[maxLen];omega);simp only[qf,hi',cond_true,cB hi,bind_some,ad4];cases h:(decide (l[i].x0<=x)&&decide (x < l[i].x1))with
  |true=>
   simp only[cond_true,ap,fF,aA,bind_some];refine⟨?_,by simp;omega⟩;rw[ay (by omega)];rfl
  |false=>
   simp only[cond_false,aA,cond_true,bind_some];exact⟨by rw[ay (by omega)],by omega⟩
theorem MI {n:Nat} (w1 r2:List aD) (hw:w1.length=r2.length) (hl:r2.length < 1099511627776) (hn:r2.length < n):iter (qg w1 r2) n ((0:Int),([]:List aD))=some (r2.foldl mrg []):=by
 have:=j4 (l:=r2) (step:=qg w1 r2) (fun i (s:List aD)=>((i:Int),s)) (fun r s=>mrg s r) (fun s=>s) (fun i s=>s.length<=i)
  (fun i hi s hs=>?_) (fun s hs=>by simp[qg,hw]) n hn [] (Nat.le_refl _)
 ·rw[show ((0:Nat):Int)=0 from rfl]at this;exact this
 ·refine⟨?_,by have:=RD s r2[i];omega⟩;have hi':decide (((i:Nat):Int) < ((w1.length:Nat):Int))=true:=by simp;omega
  have ib:inb (i:Int) w1.length=true:=dM (by omega);have ap:bG s.length s.length (sub ([r2[i]]:List aD) 0 1).length 1 16=true:=cZ (n:=1) (by omega) (by simp only[maxLen];omega);simp only[qg,hi',cond_true,ib,fU hi,bind_some];rcases List.eq_nil_or_concat s with rfl |⟨s0,q,hsq⟩
  ·have d0:decide (((([]:List aD).length:Nat):Int)>0)=false:=(by simp);simp only[d0,cond_false,bind_some,ap,cond_true,fF,aA];rw[ay (by omega)];rfl
  ·rw[List.concat_eq_append]at hsq;subst hsq;have d0:decide (((((s0++[q]).length:Nat):Int))>0)=true:=(by simp<;>omega);have lenq:(s0++[q]).length=s0.length+1:=(by simp);have wp:i64.wrap ((((s0++[q]).length:Nat):Int) - 1)=((s0.length:Nat):Int):=(by rw[lZ (by simp) (by omega),lenq];rfl);have ib2:inb ((s0.length:Nat):Int) (s0++[q]).length=true:=dM (by omega);have g:at? (s0++[q]) (((0:Nat):Int)+((s0.length:Nat):Int))=some q:=(by rw[DF];simp);have z:(((0:Nat):Int)+((s0.length:Nat):Int)).toNat=s0.length:=(by simp);have st:(s0++[q]).set s0.length (aD.mk q.from_ (max q.to r2[i].to))=s0++[⟨q.from_,max q.to r2[i].to⟩]:=(by simp);have m:mrg (s0++[q]) r2[i]=bif decide (r2[i].from_<=q.to)then s0++[⟨q.from_,max q.to r2[i].to⟩]else s0++[q]++[r2[i]]:=(by simp[mrg]);simp only[d0,cond_true,wp,ib2,g,bind_some,m,z,st];cases decide (r2[i].from_<=q.to)with
   |true=>
    have e:eqL (s0++[q]).length (s0++[(⟨q.from_,max q.to r2[i].to⟩:aD)]).length=true:=(by simp);simp only[cond_true,e,bind_some,aA];rw[ay (by omega)]
   |false=>
    simp only[cond_false,ap,cond_true,fF,aA,bind_some];rw[ay (by omega)];rfl
theorem WI {n:Nat} {l:List au} {x:Int} (hv:∀ r∈l,OkR r=true) (hl:l.length < 1099511627776) (hn:l.length < n):Hw n l x=some (vZ l x):=by
 have h1:=GH l x;have h2:(rq ltS (oJ l x)).length=(oJ l x).length:=DL KW _;unfold Hw;simp only[length_nil,aA,cond_true,MH (x:=x) (l:=l) (by omega) (n:=n) (by omega),bind_some];rw[Ig (fun a b=>if a.from_ < b.from_ then -1 else if b.from_ < a.from_ then 1 else 0) (fun a b=>by show vV a b=_;unfold vV;rw[xR];rfl) (fun a b=>by
  by_cases h1:a.from_ < b.from_
  ·simp[h1]
  ·by_cases h2:b.from_ < a.from_<;>simp[h1,h2]) (by omega) (by omega)]
 simp only[bind_some];rw[MI _ _ h2.symm (by omega) (by omega)];simp only[bind_some,bH,aA,cond_true];rw[acF (aam hv x)];rfl
def iW (l:List au):List Int:=agS (l.flatMap fun r=>[r.x0,r.x1])
def Jp {α:Type} (f:Int->Int->α):List Int->List α
 |a::b::l=>f a b::Jp f (b::l)
 |_=>[]
def dF (l:List au):List dL:=Jp (fun a b=>⟨a,b,vZ l a⟩) (iW l)
theorem D6 {α:Type} (f:Int->Int->α):∀ (l:List Int),(Jp f l).length=l.length - 1∧∀ i (h:i+1 < l.length) (h':i < (Jp f l).length),(Jp f l)[i]=f l[i] l[i+1]
 |[]=>⟨rfl,fun i h=>by simp at h⟩
 |[a]=>⟨rfl,fun i h=>by simp at h⟩
 |a::b::l=>by
  obtain⟨h1,h2⟩:=D6 f (b::l);refine⟨by simp only[Jp,length_cons,h1];simp,fun i h h'=>?_⟩;cases i with
  |zero=>rfl
  |succ i=>
   simp only[Jp,List.getElem_cons_succ];exact h2 i (by simpa using h) _
theorem uz (l:List au):(l.flatMap fun r=>[r.x0,r.x1]).length=2*l.length:=by
 induction l with
 |nil=>rfl
 |cons x l ih=>simp only[List.flatMap_cons,length_append,ih,length_cons,length_nil];omega
theorem EF (l:List Int):(lN l).length<=l.length:=by
 match l with
 |[]=>simp[lN]
 |[x]=>simp[lN]
 |x::y::l=>
  have:=EF (y::l);simp only[lN];cases x==y<;>simp at* <;>omega
theorem IW (l:List au):(iW l).length<=2*l.length:=by
 have h:=EF (rf (fun a b=>decide (a < b)) (l.flatMap fun r=>[r.x0,r.x1]));rw[jh,uz]at h;exact h
theorem MJ {n:Nat} {l:List au} (hl:l.length < 10995116277) (hn:l.length < n):iter (qh l) n ((0:Int),([]:List Int))=some (l.flatMap fun r=>[r.x0,r.x1]):=by
 have:=j4 (l:=l) (step:=qh l) (fun i (s:List Int)=>((i:Int),s)) (fun r s=>s++[r.x0,r.x1]) (fun s=>s) (fun i s=>s.length<=2*i)
  (fun i hi s hs=>?_) (fun s hs=>by simp[qh]) n hn [] (Nat.le_refl _)
 ·rw[show ((0:Nat):Int)=0 from rfl]at this;rw[this];have gen:∀ (ys:List au) (s:List Int),ys.foldl (fun s r=>s++[r.x0,r.x1]) s=s++ys.flatMap fun r=>[r.x0,r.x1]:=by
   intro ys
   induction ys with
   |nil=>intro s;simp
   |cons y ys ih=>intro s;simp[ih]
  congr 1;simpa using gen l []
 ·have hi':decide (((i:Nat):Int) < ((l.length:Nat):Int))=true:=by simpa using hi
  have ap:bG s.length s.length (sub ([l[i].x0,l[i].x1]:List Int) 0 2).length 2 8=true:=cZ (n:=2) (by omega) (by simp only[maxLen];omega);simp only[qh,hi',cond_true,dM hi,fU hi,bind_some,ap,fF,aA];refine⟨?_,by simp;omega⟩;rw[ay (by omega)];rfl
theorem WJ {n:Nat} {ls:List (List au)} (hv:∀ r∈ls.flatten,OkR r=true) (hl:ls.flatten.length < 10995116277) (hls:ls.length < 1099511627776) (hn:2*ls.flatten.length < n) (hn2:ls.length < n):Hy n ls=some (dF ls.flatten):=by
 unfold Hy;rw[KV (by omega) hls hn2];generalize ls.flatten=l at*;have he:=IW l;simp only[bind_some,length_nil,aA,cond_true,MJ (l:=l) (n:=n) (by omega) (by omega)];rw[xS (by rw[uz];omega) (by rw[uz];omega)];simp only[bind_some,jh,aA,cond_true];rw[Ab (by rw[jh,uz];omega) (by rw[jh,uz];omega)];simp only[bind_some];have hE:lN (rf ltI (l.flatMap fun r=>[r.x0,r.x1]))=iW l:=rfl;rw[hE];obtain⟨p1,p2⟩:=D6 (fun a b=>(⟨a,b,vZ l a⟩:dL)) (iW l);have key:iter (qi n l ((),iW l)) n ((1:Int),([]:List dL))=some (dF l):=by
  have:=l5 (step:=qi n l ((),iW l)) (fun i=>(((i+1:Nat):Int),(dF l).take i)) (dF l).length (dF l) (fun i hi=>?_) ?_ n (by unfold dF;omega)
  ·simpa using this
  ·have hi2:i+1 < (iW l).length:=(by unfold dF at hi;omega);have d:decide (((i+1:Nat):Int) < (((iW l).length:Nat):Int))=true:=(by simp;omega);have wp:i64.wrap (((i+1:Nat):Int) - 1)=((i:Nat):Int):=(by rw[lZ (by omega) (by omega)];rfl);have ap:bG ((dF l).take i).length ((dF l).take i).length (sub ([(dL.mk ((iW l)[i]'(by omega)) (iW l)[i+1] (vZ l ((iW l)[i]'(by omega))))]:List dL) 0 1).length 1 40=true:=by
    refine cZ (n:=1) ?_ ?_
    ·rw[length_take];unfold dF;omega
    ·rw[length_take];unfold dF;simp only[maxLen];omega
   have tk:(dF l).take (i+1)=(dF l).take i++[⟨(iW l)[i]'(by omega),(iW l)[i+1],vZ l ((iW l)[i]'(by omega))⟩]:=by
    rw[take_succ_eq_append_getElem hi];congr 2;exact p2 i hi2 hi
   simp only[qi,d,cond_true,wp,dM (show i < (iW l).length by omega),fU (show i < (iW l).length by omega),bind_some,dM hi2,fU hi2,bH,aA,WI (l:=l) (n:=n) hv (by omega) (by omega),ap,fF];rw[ay (by omega),tk];rfl
  ·have d:decide ((((dF l).length+1:Nat):Int) < (((iW l).length:Nat):Int))=false:=(by unfold dF;simp;omega);simp only[qi,d,cond_false,List.take_length,aA,cond_true]
 rw[key];simp only[bind_some,bH,aA,cond_true]
def D7 (x0 x1:Int) (c:List aD):List au:=c.map fun q=>⟨x0,q.from_,x1,q.to⟩
def aan (x0 x1:Int) (c:List aD):List dL->List au
 |[]=>D7 x0 x1 c
 |s::l=>if s.column=c then aan x0 s.x1 c l else D7 x0 x1 c++aan s.x0 s.x1 s.column l
def rV:List dL->List au
 |[]=>[]
 |s::l=>aan s.x0 s.x1 s.column l
theorem U8 (x0:Int) (c:List aD):∀ (l:List dL) (x1:Int) (k:Nat) (hk:k<=l.length),(∀ j (hj:j < k),(l[j]'(by omega)).column=c)->(∀ h:k < l.length,l[k].column≠c)->
 aan x0 x1 c l=D7 x0 (if h:0 < k then (l[k - 1]'(by omega)).x1 else x1) c++rV (l.drop k)
 |l,x1,0,_,_,h2=>by
  cases l with
  |nil=>simp[aan,rV]
  |cons s l=>
   have:=h2 (by simp);simp only[List.getElem_cons_zero]at this;simp[aan,rV,this]
 |[],x1,k+1,hk,_,_=>by simp at hk
 |s::l,x1,k+1,hk,h1,h2=>by
  have e0:=h1 0 (by omega);simp only[List.getElem_cons_zero]at e0;simp only[aan,e0,if_true];rw[U8 x0 c l s.x1 k (by simpa using hk) (fun j hj=>by have:=h1 (j+1) (by omega);simpa using this) (fun h=>by have:=h2 (by simpa using h);simpa using this)];simp only[List.drop_succ_cons];congr 2;by_cases hk0:0 < k
  ·simp only[hk0,dite_true,Nat.zero_lt_succ,Nat.add_sub_cancel];obtain⟨m,rfl⟩:∃ m,k=m+1:=⟨k - 1,by omega⟩;simp
  ·have:k=0:=(by omega);subst this;simp
theorem Ox {n:Nat} {l:List dL} {i k:Nat} (hi:i < l.length) (hk1:0 < k) (hk:k<=l.length) (hl:l.length < 10995116277) (x3:dL) (out:List au) (ho:out.length < 1099511627776) (hc:x3.column.length < 1099511627776) (hn:x3.column.length < n):
 iter (uh l (i:Int) (k:Int) x3) n ((0:Int),out)=some (out++D7 l[i].x0 (l[k - 1]'(by omega)).x1 x3.column):=by
 have:=j4 (l:=x3.column) (step:=uh l (i:Int) (k:Int) x3) (fun j (s:List au)=>((j:Int),s)) (fun q s=>s++[⟨l[i].x0,q.from_,(l[k - 1]'(by omega)).x1,q.to⟩]) (fun s=>s) (fun j s=>s.length<=out.length+j)
  (fun j hj s hs=>?_) (fun s hs=>by simp[uh]) n hn out (Nat.le_refl _)
 ·rw[show ((0:Nat):Int)=0 from rfl]at this;rw[this];have gen:∀ (ys:List aD) (s:List au),ys.foldl (fun s q=>s++[⟨l[i].x0,q.from_,(l[k - 1]'(by omega)).x1,q.to⟩]) s=s++D7 l[i].x0 (l[k - 1]'(by omega)).x1 ys:=by
   intro ys
   induction ys with
   |nil=>intro s;simp[D7]
   |cons y ys ih=>intro s;simp only[foldl_cons,ih];simp[D7]
  rw[gen]
 ·have hj':decide (((j:Nat):Int) < (x3.column.length:Int))=true:=by simpa using hj
  have wp:i64.wrap ((k:Int) - 1)=((k - 1:Nat):Int):=lZ hk1 (by omega);have ap:bG s.length s.length (sub ([(au.mk l[i].x0 (x3.column[j]).from_ (l[k - 1]'(by omega)).x1 (x3.column[j]).to)]:List au) 0 1).length 1 32=true:=cZ (n:=1) (by omega) (by simp only[maxLen];omega);simp only[uh,hj',cond_true,cB hj,cB hi,wp,cB (show k - 1 < l.length by omega),bind_some,ap,fF,aA];refine⟨?_,by simp;omega⟩;rw[ay (by omega)];rfl
theorem Yz {n:Nat} {l:List dL} {b:Nat} (hb:b<=100000) (hl:l.length<=100000) (hc:∀ s∈l,s.column.length<=b) (hn:b < n) (hn2:l.length < n):KT n l=some (rV l):=by
 unfold KT;simp only[length_nil,aA,cond_true];have main:∀ (m i:Nat) (out:List au) (k:Nat),i+m=l.length->m < k->out.length<=i*b->iter (uj n l) k ((i:Int),out)=some (out++rV (l.drop i)):=by
  intro m
  induction m using Nat.strongRecOn with
  |ind m ih=>
   intro i out k him hk ho;obtain⟨k,rfl⟩:∃ j,k=j+1:=⟨k - 1,by omega⟩;by_cases hm:m=0
   ·subst hm;have:i=l.length:=(by omega);subst this;refine aU ?_;simp[uj,rV]
   ·have hi:i < l.length:=(by omega);have di:decide (((i:Nat):Int) < (l.length:Int))=true:=(by simpa using hi);obtain⟨q,hq1,hq2,hq3,hq4⟩:∃ q,i < q∧q<=l.length∧(∀ j,i < j->j < q->∀ h:j < l.length,l[j].column=l[i].column)∧(∀ h:q < l.length,l[q].column≠l[i].column):=by
     rcases IU (fun j=>if h:j < l.length then decide (l[j].column≠l[i].column)else false) (i+1) l.length with ⟨q,h1,h2,h3,h4⟩ |h
     ·simp only[h2,dite_true,decide_eq_true_eq]at h3;refine⟨q,by omega,by omega,fun j hj1 hj2 hj=>?_,fun _=>h3⟩;have:=h4 j (by omega) hj2;simp only[hj,dite_true,decide_eq_false_iff_not,ne_eq,Decidable.not_not]at this;exact this
     ·refine⟨l.length,hi,Nat.le_refl _,fun j hj1 hj2 hj=>?_,fun h=>by omega⟩;have:=h j (by omega) hj;simp only[hj,dite_true,decide_eq_false_iff_not,ne_eq,Decidable.not_not]at this;exact this
    have cl:∀ j (hj:j < l.length),l[j].column.length<=b:=fun j hj=>hc _ (getElem_mem hj);have r2:iter (pq n l (i:Int)) n (i64.wrap ((i:Int)+1))=some (q:Int):=by
     rw[ay (by omega)];have:=l5 (step:=pq n l (i:Int)) (fun j=>((i+1+j:Nat):Int)) (q - (i+1)) (q:Int) (fun j hj=>?_) ?_ n (by omega)
     ·simpa using this
     ·have hjl:i+1+j < l.length:=(by omega);have dj:decide (((i+1+j:Nat):Int) < (l.length:Int))=true:=(by simp;omega);have hcc:=cl (i+1+j) hjl;simp only[pq,dj,cond_true,cB hjl,cB hi,bind_some];rw[Ci (by omega) (by omega),hq3 (i+1+j) (by omega) (by omega) hjl];simp only[decide_true,bind_some,cond_true];rw[ay (by omega)];rfl
     ·rw[show i+1+(q - (i+1))=q by omega];by_cases hql:q < l.length
      ·have dj:decide (((q:Nat):Int) < (l.length:Int))=true:=(by simpa using hql);have hcc:=cl q hql;simp only[pq,dj,cond_true,cB hql,cB hi,bind_some];rw[Ci (by omega) (by omega)];simp[hq4 hql]
      ·have dj:decide (((q:Nat):Int) < (l.length:Int))=false:=(by simp;omega);simp only[pq,dj,cond_false,bind_some]
    have ob:i*b<=100000*100000:=Nat.mul_le_mul (by omega) hb;have hci:=cl i hi;have r3:=Ox (n:=n) hi (show 0 < q by omega) hq2 (by omega) l[i] out (by omega) (by omega) (by omega);have step:uj n l ((i:Int),out)=some (.inl ((q:Int),out++D7 l[i].x0 (l[q - 1]'(by omega)).x1 l[i].column)):=(by simp only[uj,di,cond_true,r2,cB hi,bind_some,aA,r3]);rw[bM step,ih (l.length - q) (by omega) q _ k (by omega) (by omega) (by
     rw[length_append,D7,length_map];have:(i+1)*b<=q*b:=Nat.mul_le_mul_right _ (by omega);rw[Nat.add_mul]at this;omega)]
    rw[List.append_assoc];congr 2
    conv=>rhs;rw[List.drop_eq_getElem_cons hi]
    simp only[rV];rw[U8 l[i].x0 l[i].column (l.drop (i+1)) l[i].x1 (q - (i+1)) (by rw[List.length_drop];omega) (fun j hj=>by
     rw[getElem_drop];exact hq3 _ (by omega) (by omega) (by omega)) (fun h=>by
     rw[List.length_drop]at h;rw[getElem_drop];have:=hq4 (by omega);have hqq:i+1+(q - (i+1))=q:=(by omega);simp only[hqq];exact this)]
    rw[List.drop_drop,show i+1+(q - (i+1))=q by omega];congr 2;by_cases h0:0 < q - (i+1)
    ·simp only[h0,dite_true,getElem_drop];congr 2;omega
    ·simp only[h0,dite_false];have:q - 1=i:=(by omega);congr 2
 have:=main l.length 0 [] n (by omega) (by omega) (by simp);simp only[Int.natCast_zero,nil_append,List.drop_zero]at this;rw[this];simp
def ofL (l:List au):List au×Int:=
 if l.all OkR then (if l.length>400 then ([],6)else if (rV (dF l)).length>200 then ([],6)else (rV (dF l),0))else ([],1)
def rightL (l:List au):Bool:=decide ((ofL l).2=0)&&decide ((ofL l).1=l)
theorem YA {l:List au} {s:dL} (h:s∈dF l):s.column.length<=l.length:=by
 obtain⟨i,hi,rfl⟩:=List.getElem_of_mem h;obtain⟨p1,p2⟩:=D6 (fun a b=>(⟨a,b,vZ l a⟩:dL)) (iW l);have:(dF l)[i]=⟨(iW l)[i]'(by unfold dF at hi;omega),(iW l)[i+1]'(by unfold dF at hi;omega),vZ l ((iW l)[i]'(by unfold dF at hi;omega))⟩:=p2 i (by unfold dF at hi;omega) hi;rw[this];exact RG l _
theorem RH (l:List au):(dF l).length<=2*l.length:=by
 obtain⟨p1,_⟩:=D6 (fun a b=>(⟨a,b,vZ l a⟩:dL)) (iW l);have:=IW l;unfold dF;omega
theorem ad5 {n:Nat} {l:List au} (hl:l.length < 1099511627776) (hl2:l.length < n) (hn:1000<=n):abt n l=some (ofL l):=by
 unfold abt;have h1:=kN (l:=l) (step:=KU l) (fun i=>(i:Int)) (fun r=>!OkR r) () (fun _=>(([]:List au),(1:Int))) (fun i hi=>?_) ?_ n (by omega)
 ·rw[show ((0:Nat):Int)=0 from rfl]at h1;rw[h1];have h2:=l6 (fun r=>!OkR r) l;cases hf:kY (fun r=>!OkR r) l with
  |some i=>
   rw[hf]at h2;have:l.all OkR=false:=by
    rw[<- Bool.not_eq_true,all_eq_true];intro hall;have h3:=h2.symm;simp only[Option.isSome_some,any_eq_true]at h3;obtain⟨x,hx,hx2⟩:=h3;rw[hall x hx]at hx2;cases hx2
   simp[ofL,this]
  |none=>
   rw[hf]at h2;have:l.all OkR=true:=by
    rw[all_eq_true];intro x hx;cases h:OkR x with
    |true=>rfl
    |false=>
     have:l.any (fun r=>!OkR r)=true:=any_eq_true.2 ⟨x,hx,by rw[h];rfl⟩;rw[this]at h2;cases h2
   have hv:∀ r∈l,OkR r=true:=all_eq_true.1 this;by_cases h400:l.length>400
   ·have d4:decide ((l.length:Int)>400)=true:=(by simp;omega);simp only[kM,d4,cond_true,ofL,this,if_true,if_pos h400]
   have d4:decide ((l.length:Int)>400)=false:=(by simp;omega);have ls:=RH l;simp only[kM,d4,cond_false];have fl:[l].flatten=l:=(by simp);rw[show (sub ([l]:List (List au)) 0 1)=[l]from rfl,WJ (ls:=[l]) (by rw[fl];exact hv) (by rw[fl];omega) (by simp) (by rw[fl];omega) (by simp;omega),fl];simp only[length_singleton,aA,cond_true,bind_some,bH];rw[Yz (b:=400) (by omega) (by omega) (fun s hs=>Nat.le_trans (YA hs) (by omega)) (by omega) (by omega)];simp only[bind_some,bH,aA,cond_true,Jl,ofL,this,if_true,if_neg h400];by_cases h200:(rV (dF l)).length>200
   ·have:decide (((rV (dF l)).length:Int)>200)=true:=(by simp;omega);simp only[this,cond_true,bind_some,h200,if_true]
   ·have:decide (((rV (dF l)).length:Int)>200)=false:=(by simp;omega);simp only[this,cond_false,bind_some,h200,if_false]
 ·have hi':decide (((i:Nat):Int) < (l.length:Int))=true:=by simpa using hi
  simp only[KU,hi',cond_true,cB hi,bind_some,kF];cases OkR l[i]with
  |false=>rfl
  |true=>simp only[Bool.not_true,cond_false];rw[ay (by omega)]
 ·simp[KU]
theorem Ac {n:Nat} {l:List au} (hl:l.length < 1099511627776) (hl2:l.length < n) (hn:1000<=n):xM n l=some (rightL l):=by
 unfold xM rightL;rw[ad5 hl hl2 hn];simp only[bind_some];by_cases h:(ofL l).2=0
 ·have e:((ofL l).2==0)=true:=by simp[h]
  have lo:(ofL l).1.length<=200:=by
   unfold ofL;split
   ·split
    ·simp
    ·split
     ·simp
     ·simp;omega
   ·simp
  by_cases hlen:(ofL l).1.length < n
  ·simp only[e,cond_true,h,decide_true,Bool.true_and];rw[ME (by omega) hlen];rfl
  ·have:(ofL l).1.length≠l.length:=(by omega);have hne:(ofL l).1≠l:=fun e=>this (by rw[e]);simp only[e,cond_true,h,decide_true,Bool.true_and];unfold nW;have hb:(((ofL l).1.length:Int) != (l.length:Int))=true:=(by simp;omega);rw[hb];simp[hne]
 ·have e:((ofL l).2==0)=false:=by simp[h]
  simp[e,h]
theorem afe {α:Type} (c:Bool) (a b:α):(bif c then some a else some b)=some (bif c then a else b):=by cases c<;>rfl
theorem jl {i n:Nat} (h:i < n):decide ((i:Int) < ((n:Nat):Int))=true:=by simpa using h
theorem gP (n:Nat):decide ((n:Int) < ((n:Nat):Int))=false:=by simp
theorem aff {k b:Nat} (h:k*b<=140737488355328) (h2:k<=maxLen):I7 (k:Int) b=true:=by
 have e:((k:Int)).toNat=k:=by omega
 simp only[I7,and_eq_true,decide_eq_true_eq,e];exact⟨⟨by omega,h⟩,h2⟩
def Runs:List dL->Prop
 |[]=>True
 |[s]=>s.x0 < s.x1∧s.column≠[]
 |s::t::l=>(s.x0 < s.x1∧s.column≠[])∧s.x1<=t.x0∧(s.x1=t.x0->s.column≠t.column)∧Runs (t::l)
theorem acG {a:List au} (h:rightL a=true):ofL a=(a,0):=by
 unfold rightL at h;rw[and_eq_true,decide_eq_true_eq,decide_eq_true_eq]at h;obtain⟨h1,h2⟩:=h;exact Prod.ext h2 h1
theorem WK {a:List au} (h:rightL a=true):(∀ r∈a,OkR r=true)∧a.length<=200∧rV (dF a)=a:=by
 have h:=acG h;unfold ofL at h;split at h
 ·rename_i hall;split at h
  ·simp at h
  ·split at h
   ·simp at h
   ·rename_i h200;injection h with h _;refine⟨all_eq_true.1 hall,?_,h⟩;rw[<- h];omega
 ·simp at h
def ext (out:List aD) (p:aD):List aD:=
 match out.getLast? with
 |some q=>bif q.to==p.from_ then out.dropLast++[⟨q.from_,p.to⟩]else out++[p]
 |none=>[p]
def Oa (r:au):Int:=(r.x1 - r.x0)*(r.y1 - r.y0)
def KX (l:List au):Int:=(l.map Oa).sum
theorem GI {r:au} (h:OkR r=true):0<=Oa r∧Oa r<=1099511627776:=by
 simp only[OkR,and_eq_true,decide_eq_true_eq]at h;unfold Oa;refine⟨Int.mul_nonneg (by omega) (by omega),?_⟩;have:=Int.mul_le_mul (show r.x1 - r.x0<=1048576 by omega) (show r.y1 - r.y0<=1048576 by omega) (by omega) (by omega);omega
theorem RI:∀ {l:List au},(∀ r∈l,OkR r=true)->0<=KX l∧KX l<=1099511627776*(l.length:Int)
 |[],_=>by simp[KX]
 |r::l,h=>by
  have h1:=GI (h r mem_cons_self);have h2:=RI (l:=l) fun q hq=>h q (List.mem_cons_of_mem _ hq);have e:KX (r::l)=Oa r+KX l:=rfl;rw[e,length_cons]
  push_cast
  omega
theorem U9:∀ (l:List Int) (x:Int),(l++[x]).sum=l.sum+x
 |[],x=>by simp
 |a::l,x=>by rw[List.cons_append,List.sum_cons,List.sum_cons,U9 l x];omega
theorem acH {r:au} (h:OkR r=true):DW r=some (Oa r):=by
 have hb:=GI h;unfold DW wO;rw[kF,h];simp only[bind_some,cond_true];simp only[OkR,and_eq_true,decide_eq_true_eq]at h;unfold Oa at*;rw[dD (x:=r.x1 - r.x0) (by omega) (by omega),dD (x:=r.y1 - r.y0) (by omega) (by omega),dD (by omega) (by omega)]
theorem aao {n:Nat} {a:List au} (ha:a.length<=900) (hn:1000<=n):Po n a=some (bif rightL a then KX a else 0):=by
 unfold Po;rw[Ac (by omega) (by omega) hn];simp only[bind_some];cases hr:rightL a with
 |false=>rfl
 |true=>
  have ok:=(WK hr).1;have:=l5 (step:=DX a) (fun i=>(KX (a.take i),((i:Nat):Int))) a.length (KX a) (fun i hi=>?_) ?_ n (by omega)
  ·have e:KX (a.take 0)=0:=rfl;rw[e,show ((0:Nat):Int)=0 from rfl]at this;simp only[Bool.not_true,cond_false,cond_true,this,bind_some]
  ·have c:decide (((i:Nat):Int) < (a.length:Int))=true:=(by simpa using hi);have h1:=RI (l:=a.take i) fun r hr=>ok r (List.mem_of_mem_take hr);rw[length_take]at h1;have h2:=GI (ok _ (getElem_mem hi));have e:KX (a.take (i+1))=KX (a.take i)+Oa a[i]:=(by rw[take_succ_eq_append_getElem hi];unfold KX;rw[map_append];exact U9 _ _);simp only[DX,c,cond_true,cB hi,bind_some,acH (ok _ (getElem_mem hi))];rw[ay (by omega),dD (by omega) (by omega),e]
  ·simp[DX]
abbrev ltY (a b:au):Bool:=decide (a.y0 < b.y0)
theorem aby:Go.Sort.SWO ltY where
 irrefl x:=by simp[ltY]
 trans x y z h1 h2:=by simp only[ltY,decide_eq_true_eq]at *;omega
 ntrans x y z h1 h2:=by simp only[ltY,decide_eq_false_iff_not]at *;omega
instance:Inhabited au:=⟨au.mk 0 0 0 0⟩
theorem acI (n:Nat) (rc:List au->Int->Int->Int->((au×au×Unit)->Option Int)->Option (List au)) (φ:(au×au×Unit)->Option Int) (l:List au) (a b d:Int):fZ n rc l a b d φ=fT (fun x y=>φ (x,y,())) (fun r=>decide (r < 0)) aK aL n (fun l a b d=>rc l a b d φ) l a b d:=by kernel_rfl
theorem Va (n:Nat) (φ:(au×au×Unit)->Option Int):∀ m l a b d,bZ n m l a b d φ=dK (fun x y=>φ (x,y,())) (fun r=>decide (r < 0)) aK aL n m l a b d
 | 0,l,a,b,d=>rfl
 |m+1,l,a,b,d=>by
  have e:(fun l a b d=>bZ n m l a b d φ)=dK (fun x y=>φ (x,y,())) (fun r=>decide (r < 0)) aK aL n m:=by
   funext l a b d;exact Va n φ m l a b d
  show fZ n (bZ n m) l a b d φ=fT (fun x y=>φ (x,y,())) (fun r=>decide (r < 0)) aK aL n (dK (fun x y=>φ (x,y,())) (fun r=>decide (r < 0)) aK aL n m) l a b d;rw[<- e];exact acI n (bZ n m) φ l a b d
theorem Ih {n:Nat} {l:List au} {φ:(au×au×Unit)->Option Int} (f:au->au->Int) (hφ:∀ x y,φ (x,y,())=some (f x y)) (hf:∀ x y,decide (f x y < 0)=ltY x y) (hl:l.length < 1099511627776) (hn:l.length < n):mq n l φ=some (rq ltY l):=by
 unfold mq kD;rw[kQ (by omega),uy (by omega)];simp only[bind_some,aA,cond_true,Va];rw[pY (lt:=ltY) aby (f:=f) (q:=fun r=>decide (r < 0)) hφ hf abv abw (by omega) hn hn];rfl
structure aha (R:List dL):Prop where
 runs:Runs R
 len:R.length<=200
 col:∀ s∈R,Can s.column∧∀ q∈s.column,0<=q.from_∧q.from_ < q.to∧q.to<=1048576
 xs:∀ s∈R,0<=s.x0∧s.x0 < s.x1∧s.x1<=1048576
 froms:(R.flatMap fun s=>s.column.map (·.from_)).length<=200
def aap (a b:au):Int:=bif (!OkR a || !OkR b)then -1 else max (max 0 (i64.wrap ((max a.x0 b.x0) - (min a.x1 b.x1)))) (i64.wrap ((max a.y0 b.y0) - (min a.y1 b.y1)))
theorem ad6 (a b:au):abu a b=some (aap a b):=by
 unfold abu aap;rw[kF,kF];simp only[bind_some];cases OkR a<;>cases OkR b<;>rfl
def WL (a b:List au):Int×Bool:=
 bif (decide (a=[]) || (decide (b=[]) || (!rightL a || !rightL b)))then (0,false)else (a.foldl (fun m x=>b.foldl (fun m y=>min m (aap x y)) m) 1048576,true)
theorem TD {n:Nat} {b:List au} (hb:b.length < 1099511627776) (hn:b.length < n) (x:au) (m:Int):iter (Ce b x) n (m,(0:Int))=some (b.foldl (fun m y=>min m (aap x y)) m):=by
 have:=rP (l:=b) (step:=Ce b x) (fun i (s:Int)=>(s,((i:Nat):Int))) (fun y m=>min m (aap x y)) (fun s=>s) (fun i hi s=>?_) (fun s=>by simp[Ce]) n hn m
 ·exact this
 ·have hi':decide (((i:Nat):Int) < (b.length:Int))=true:=by simpa using hi
  simp only[Ce,hi',cond_true,cB hi,bind_some,ad6];rw[ay (by omega)]
theorem acJ {n:Nat} {a b:List au} (ha:a.length<=900) (hb:b.length<=900) (hn:1000<=n):RB n a b=some (WL a b):=by
 unfold RB WL;have z:∀ l:List au,(((l.length:Int))==0)=decide (l=[]):=fun l=>by cases l<;>simp<;>omega
 rw[z a,z b,Ac (by omega) (by omega) hn,Ac (by omega) (by omega) hn];have loop:(iter (Cf n a b) n ((1048576:Int),(0:Int)))=some (a.foldl (fun m x=>b.foldl (fun m y=>min m (aap x y)) m) 1048576):=by
  have:=rP (l:=a) (step:=Cf n a b) (fun i (s:Int)=>(s,((i:Nat):Int))) (fun x m=>b.foldl (fun m y=>min m (aap x y)) m) (fun s=>s) (fun i hi s=>?_) (fun s=>by simp[Cf]) n (by omega) 1048576
  ·exact this
  ·have hi':decide (((i:Nat):Int) < (a.length:Int))=true:=(by simpa using hi);simp only[Cf,hi',cond_true,cB hi,bind_some];rw[TD (by omega) (by omega),bind_some,ay (by omega)]
 simp only[bind_some,loop];cases decide (a=[])<;>cases decide (b=[])<;>cases rightL a<;>cases rightL b<;>rfl
def abz:iI:=iI.mk 0 0 [] []
def dx (land:List iI) (id:Int):iI×Bool:=match land.find? fun t=>t.id==id with
 |some t=>(t,true)
 |none=>(abz,false)
theorem aaq {α:Type} (p:α->Bool) (l:List α):(∃ (i:Nat) (h:i < l.length),kY p l=some i∧l.find? p=some l[i])∨(kY p l=none∧l.find? p=none):=by
 rcases DI p l with ⟨i,hi,h1,h2,h3⟩ |⟨h1,h2⟩
 ·refine .inl ⟨i,hi,h1,?_⟩;rw[List.find?_eq_some_iff_getElem];exact⟨h2,i,hi,rfl,fun j hj=>by simpa using h3 j hj⟩
 ·refine .inr ⟨h1,?_⟩;rw[List.find?_eq_none];intro x hx;rw[h2 x hx];simp
def Jq (t:iI) (id d:Int) (u:iI):Bool:=(WL t.area u.area).2&&(decide ((WL t.area u.area).1<=d)&&(u.id != id))
def D8 (land:List iI) (t:iI) (id d:Int):List Int:=(land.filter fun u=>Jq t id d u).map (·.id)
def YB (land:List iI) (id d:Int):List Int:=
 bif (dx land id).2 then agS (D8 land (dx land id).1 id d)else []
theorem RJ {n:Nat} {land:List iI} (hl:land.length < 10995116277) (hn:land.length < n):iter (xO land) n ((0:Int),([]:List (List au)))=some (land.map (·.area)):=by
 have:=l5 (step:=xO land) (fun i=>(((i:Nat):Int),(land.take i).map (·.area))) land.length (land.map (·.area)) (fun i hi=>?_) ?_ n hn
 ·simpa using this
 ·have hi':decide (((i:Nat):Int) < (land.length:Int))=true:=by simpa using hi
  have ap:bG ((land.take i).map (·.area)).length ((land.take i).map (·.area)).length (sub ([land[i].area]:List (List au)) 0 1).length 1 24=true:=by
   refine cZ (n:=1) ?_ ?_
   ·rw[length_map,length_take];omega
   ·rw[length_map,length_take];simp only[maxLen];omega
  simp only[xO,hi',cond_true,cB hi,bind_some,ap,fF,aA];rw[ay (by omega),take_succ_eq_append_getElem hi,map_append];rfl
 ·simp[xO]
theorem TF {land:List iI} (h:∀ t∈land,t.area.length<=900) (id:Int):(dx land id).1.area.length<=900:=by
 unfold dx;split
 ·rename_i t ht;exact h t (List.mem_of_find?_eq_some ht)
 ·simp[abz]
theorem aar {n:Nat} {land:List iI} {id d:Int} (h:∀ t∈land,t.area.length<=900) (hF:Hu n land id=some (dx land id)) (hl:land.length<=100) (hn:1000<=n):Pp n land id d=some (YB land id d):=by
 unfold Pp YB;rw[hF];simp only[bind_some];cases hf:(dx land id).2 with
 |false=>rfl
 |true=>
  have ht:=TF h id;simp only[Bool.not_true,cond_false,length_nil,aA,cond_true,RJ (land:=land) (n:=n) (by omega) (by omega),bind_some];have key:iter (xP n land id d (dx land id) (land.map (·.area))) n ((0:Int),([]:List Int))=some (D8 land (dx land id).1 id d):=by
   have:=j4 (l:=land) (step:=xP n land id d (dx land id) (land.map (·.area))) (fun i (s:List Int)=>(((i:Nat):Int),s)) (fun u s=>bif Jq (dx land id).1 id d u then s++[u.id]else s) (fun s=>s) (fun i s=>s.length<=i)
    (fun i hi s hs=>?_) (fun s hs=>by simp[xP]) n (by omega) [] (Nat.le_refl _)
   ·rw[show ((0:Nat):Int)=0 from rfl]at this;rw[this];have gen:∀ (ys:List iI) (s:List Int),ys.foldl (fun s u=>bif Jq (dx land id).1 id d u then s++[u.id]else s) s=s++D8 ys (dx land id).1 id d:=by
     intro ys
     induction ys with
     |nil=>intro s;simp[D8]
     |cons y ys ih=>
      intro s;simp only[foldl_cons,ih,D8];cases hy:Jq (dx land id).1 id d y<;>simp[hy]
    rw[gen];simp
   ·have hlm:(land.map (·.area)).length=land.length:=(by simp);have hi':decide (((i:Nat):Int) < (((land.map (·.area)).length:Nat):Int))=true:=(by rw[hlm];simpa using hi);have ib:inb ((i:Nat):Int) (land.map (·.area)).length=true:=dM (by omega);have g:at? (land.map (·.area)) (((0:Nat):Int)+((i:Nat):Int))=some land[i].area:=(by rw[DF];simp[hi]);have hu:=h _ (getElem_mem hi);have ap:bG s.length s.length (sub ([land[i].id]:List Int) 0 1).length 1 8=true:=cZ (n:=1) (by omega) (by simp only[maxLen];omega);have gp:RB n (dx land id).1.area land[i].area=some (WL (dx land id).1.area land[i].area):=acJ ht hu hn;simp only[xP,hi',cond_true,ib,g,bind_some,gp,cB hi];have e:((bif (WL (dx land id).1.area land[i].area).2 then (bif (decide ((WL (dx land id).1.area land[i].area).1<=d))then some (land[i].id != id)else some false)else some false):Option Bool)=some (Jq (dx land id).1 id d land[i]):=by
     unfold Jq;cases (WL (dx land id).1.area land[i].area).2<;>cases decide ((WL (dx land id).1.area land[i].area).1<=d)<;>rfl
    rw[e];simp only[bind_some];cases Jq (dx land id).1 id d land[i]with
    |true=>
     simp only[cond_true,ap,fF,aA,bind_some];refine⟨?_,by simp;omega⟩;rw[ay (by omega)];rfl
    |false=>
     simp only[cond_false,aA,cond_true,bind_some];exact⟨by rw[ay (by omega)],by omega⟩
  have hlen:(D8 land (dx land id).1 id d).length<=100:=by
   unfold D8;rw[length_map];exact Nat.le_trans (length_filter_le _ _) hl
  rw[key];simp only[bind_some,aA,cond_true];rw[xS (by omega) (by omega)];simp only[bind_some,jh,aA,cond_true];rw[Ab (by rw[jh];omega) (by rw[jh];omega)];simp only[bind_some,bH,aA,cond_true];rfl
def ad7:List ByteArray:=[⟨#[104,111,109,101]⟩,⟨#[115,104,111,112]⟩,⟨#[119,111,114,107]⟩,⟨#[112,97,114,107]⟩,⟨#[112,108,97,110,116]⟩,⟨#[104,97,108,108]⟩]
def nameOf (use:Int):Option ByteArray:=at? ad7 use
theorem YC {V O:Type} {step:V->Option (V ⊕ O)} (R:Nat->V->Prop) (N:Nat) (Q:O->Prop) (h:∀ i v,i < N->R i v->∃ v',step v=some (.inl v')∧R (i+1) v') (hN:∀ v,R N v->∃ o,step v=some (.inr o)∧Q o):
 ∀ n,N < n->∀ v,R 0 v->∃ o,iter step n v=some o∧Q o:=by
 have main:∀ k i n v,i+k=N->k < n->R i v->∃ o,iter step n v=some o∧Q o:=by
  intro k
  induction k with
  |zero=>
   intro i n v hi hn hR;obtain⟨m,rfl⟩:∃ m,n=m+1:=⟨n - 1,by omega⟩;have:i=N:=(by omega);subst this;obtain⟨o,h1,h2⟩:=hN v hR;exact⟨o,aU h1,h2⟩
  |succ k ih=>
   intro i n v hi hn hR;obtain⟨m,rfl⟩:∃ m,n=m+1:=⟨n - 1,by omega⟩;obtain⟨v',h1,h2⟩:=h i v (by omega) hR;obtain⟨o,h3,h4⟩:=ih (i+1) m v' (by omega) (by omega) h2;exact⟨o,by rw[bM h1,h3],h4⟩
 intro n hn v hR;exact main N 0 n v (by omega) hn hR
def RL (a b:au):au:=⟨max a.x0 b.x0,max a.y0 b.y0,min a.x1 b.x1,min a.y1 b.y1⟩
theorem KY (a:au):wO a=some (bif OkR a then (a,true)else (⟨0,0,0,0⟩,false)):=by
 unfold wO;rw[kF];simp only[bind_some,afe]
theorem RN (a b:au):zZ a b=some (bif OkR a&&(OkR b&&OkR (RL a b))then (RL a b,true)else (⟨0,0,0,0⟩,false)):=by
 unfold zZ;rw[kF,kF];simp only[bind_some,afe];rw[show au.mk (max a.x0 b.x0) (max a.y0 b.y0) (min a.x1 b.x1) (min a.y1 b.y1)=RL a b from rfl,KY];simp only[bind_some];generalize OkR (RL a b)=c;cases OkR a<;>cases OkR b<;>cases c<;>rfl
def ad8 (r:au):Int:=i64.wrap (i64.wrap (r.x1 - r.x0)*i64.wrap (r.y1 - r.y0))
theorem MK {r:au} (h:OkR r=true):DW r=some (ad8 r):=by
 unfold DW;rw[KY,h];rfl
def agi (x:au) (n:Int) (y:au):Int:=bif OkR x&&(OkR y&&OkR (RL x y))then i64.wrap (n+ad8 (RL x y))else n
def sEq (a b:ByteArray):Bool:=ByteArray.toList a==ByteArray.toList b
abbrev agj (r:aY):Prop:=r.zones.length<=100∧r.except.length<=100
theorem afg (r:au):OkR r=true↔(0<=r.x0∧r.x0 < r.x1∧r.x1<=1048576)∧(0<=r.y0∧r.y0 < r.y1∧r.y1<=1048576):=by simp only[OkR,and_eq_true,decide_eq_true_eq];omega
def four (r m:au):List au:=[⟨r.x0,r.y0,m.x0,r.y1⟩,⟨m.x1,r.y0,r.x1,r.y1⟩,⟨m.x0,r.y0,m.x1,m.y0⟩,⟨m.x0,m.y1,m.x1,r.y1⟩]
abbrev aas (t:iI):Prop:=t.area.length<=900∧t.from_.length*8<=140737488355328
theorem aat {t:iI} (h:aas t):KN t=some t:=by
 unfold KN;have h2:=h.2;rw[MC (by omega),bind_some,show ku t.from_=some t.from_ from tV (b:=8) (by omega) (by simp only[maxLen];omega),bind_some];simp only[bH,aA,cond_true]
theorem acK {n:Nat} {land:List iI} {id:Int} (h:∀ t∈land,aas t) (hl:land.length < 1099511627776) (hn:land.length < n):Hu n land id=some (dx land id):=by
 unfold Hu;have:=kN (l:=land) (step:=DR land id) (fun i=>(i:Int)) (fun t=>t.id==id) () (fun i=>(land.getD i abz,true)) (fun i hi=>?_) ?_ n hn
 ·rw[show ((0:Nat):Int)=0 from rfl]at this;rw[this];unfold dx;rcases aaq (fun t:iI=>t.id==id) land with ⟨i,hi,h1,h2⟩ |⟨h1,h2⟩
  ·rw[h1,h2];simp[hi]
  ·rw[h1,h2];rfl
 ·simp only[DR,jl hi,cond_true,cB hi,bind_some,aat (h _ (getElem_mem hi))];cases land[i].id==id with
  |true=>simp[hi]
  |false=>simp only[cond_false];rw[ay (by omega)]
 ·simp[DR]
theorem acL {land:List iI} (h:∀ t∈land,aas t) (id:Int):aas (dx land id).1:=by
 unfold dx;split
 ·rename_i t ht;exact h t (List.mem_of_find?_eq_some ht)
 ·simp[aas,abz]
structure ahf (t:vK):Prop where
 rules:t.plan_rules.length<=20
 ruleOk:∀ r∈t.plan_rules,agj r
 zones:t.plan_zones.length<=20
 land:t.land.length<=20
 lots:∀ l∈t.land,aas l
 easements:t.easements.length<=5
 areas:∀ e∈t.easements,e.area.length<=10
structure ahg (X Y:List Int) (es:List Ht):Prop where
 ok:∀ e∈es,rightL e.area=true
 x0:∀ e∈es,∀ c∈e.area,c.x0∈X
 x1:∀ e∈es,∀ c∈e.area,c.x1∈X
 y1:∀ e∈es,∀ c∈e.area,c.y1∈Y
 len:∀ e∈es,e.area.length<=200
 size:X.length*Y.length<=200000
theorem ML {α W O:Type} {l:List α} {step:Int->Option (Int ⊕ (W ⊕ O))} (p:α->Bool) (w:W) (o:O)
 (h:∀ i (hi:i < l.length),step (i:Int)=some (bif p l[i]then .inr (.inr o)else .inl ((i+1:Nat):Int)))
 (hend:step (l.length:Int)=some (.inr (.inl w))) (n:Nat) (hn:l.length < n):iter step n (0:Int)=some (bif l.any p then .inr o else .inl w):=by
 have:=kN (l:=l) (step:=step) (fun i=>((i:Nat):Int)) p w (fun _=>o) h hend n hn;rw[show ((0:Nat):Int)=0 from rfl]at this;rw[this,<- l6];cases kY p l<;>rfl
theorem ad9 {V O:Type} {step:V->Option (V ⊕ O)} (Inv:V->Prop) (Q:O->Prop) (m:V->Nat)
 (h:∀ v,Inv v->(∃ v',step v=some (.inl v')∧Inv v'∧m v' < m v)∨∃ o,step v=some (.inr o)∧Q o):
 ∀ n v,Inv v->m v < n->∃ o,iter step n v=some o∧Q o:=by
 intro n
 induction n with
 |zero=>intro v _ hm;omega
 |succ n ih=>
  intro v hv hm;rcases h v hv with ⟨v',h1,h2,h3⟩ |⟨o,h1,h2⟩
  ·obtain⟨o,h4,h5⟩:=ih v' h2 (by omega);exact⟨o,by rw[bM h1];exact h4,h5⟩
  ·exact⟨o,aU h1,h2⟩
theorem dJ {V O:Type} {step:V->Option (V ⊕ O)} (f:Nat->V) {s:V} (N:Nat) (o:O) (h0:s=f 0)
 (h1:∀ i,i < N->step (f i)=some (.inl (f (i+1)))) (h2:step (f N)=some (.inr o)) (n:Nat) (hn:N < n):iter step n s=some o:=by rw[h0];exact l5 f N o h1 h2 n hn
def tb (f:Nat->Nat->Bool):List Bool:=(List.range 144).map fun i=>f (i/12) (i%12)
theorem jL (f:Nat->Nat->Bool):(tb f).length=144:=by simp[tb]
theorem Ps (f:Nat->Nat->Bool) {a b:Nat} (ha:a < 12) (hb:b < 12):(tb f)[a*12+b]? =some (f a b):=by
 simp only[tb,List.getElem?_map];rw[List.getElem?_range (by omega)];simp only[Option.map_some,Option.some.injEq];rw[show (a*12+b)/12=a by omega,show (a*12+b)%12=b by omega]
theorem kT {f g:Nat->Nat->Bool} (h:∀ a b,a < 12->b < 12->f a b=g a b):tb f=tb g:=by
 refine List.map_congr_left fun i hi=>h _ _ ?_ ?_
 ·have:=List.mem_range.1 hi;omega
 ·omega
theorem WM {f g:Nat->Nat->Bool} (h:tb f=tb g) {a b:Nat} (ha:a < 12) (hb:b < 12):f a b=g a b:=by
 have:=congrArg (fun l=>l[a*12+b]?) h;simpa[Ps f ha hb,Ps g ha hb]using this
def upd (f:Nat->Nat->Bool) (a b:Nat) (v:Bool):Nat->Nat->Bool:=fun x y=>if x=a∧y=b then v else f x y
theorem afh (f:Nat->Nat->Bool) {a b:Nat} (ha:a < 12) (hb:b < 12) (v:Bool):(tb f).set (a*12+b) v=tb (upd f a b v):=by
 apply List.ext_getElem?;intro i;rw[List.getElem?_set];simp only[tb,List.getElem?_map,length_map,List.length_range];by_cases hi:i < 144
 ·rw[List.getElem?_range hi];by_cases e:a*12+b=i
  ·rw[if_pos e,if_pos (by omega)];have e1:i/12=a:=(by omega);have e2:i%12=b:=(by omega);simp[upd,e1,e2]
  ·rw[if_neg e];have:¬ (i/12=a∧i%12=b):=(by omega);simp[upd,this]
 ·rw[List.getElem?_eq_none (by simp;omega)];by_cases e:a*12+b=i
  ·omega
  ·rw[if_neg e];rfl
def fq (f:Nat->Nat->Bool):bI:=⟨tb f,jL f⟩
theorem D9 (f:Nat->Nat->Bool):bC (sub (tb f) 0 144)=some (fq f):=by
 have h:sub (tb f) 0 144=tb f:=by rw[Ro,List.take_of_length_le (by rw[jL];omega)]
 unfold bC;rw[dif_pos (by rw[h];exact jL f)];simp[fq,h]
theorem nZ {l:List Bool} (f:Nat->Nat->Bool) (h:l.length=144):jZ l 0 (tb f)=tb f:=by
 simp only[jZ,List.take_zero,nil_append,Nat.zero_add,jL];rw[List.drop_of_length_le (by omega),append_nil]
theorem xU:(List.replicate 144 false).length=144:=by simp
theorem mK:List.replicate 144 false=tb fun _ _=>false:=by
 apply List.ext_getElem?;intro i;simp only[tb,List.getElem?_map,List.getElem?_replicate];by_cases hi:i < 144
 ·rw[if_pos hi,List.getElem?_range hi];rfl
 ·rw[if_neg hi,List.getElem?_eq_none (by simp;omega)];rfl
theorem jm (f g:Nat->Nat->Bool):(eqL (tb f).length 144&&fP 0 (tb f).length (tb g).length)=true:=by simp[jL,eqL,fP]
theorem Ea (f:Nat->Nat->Bool) {a b:Nat} (ha:a < 12) (hb:b < 12):atO (tb f) (0+(a:Int).toNat*12) (b:Int)=some (f a b):=by
 simp only[atO,Nat.zero_add,Int.toNat_natCast,show decide ((0:Int)<=(b:Int))=true by simp,cond_true];exact Ps f ha hb
theorem RO (f:Nat->Nat->Bool) {a b:Nat} (ha:a < 12) (hb:b < 12):(decide ((0:Int)<=(b:Int))&&fP ((0+(a:Int).toNat*12)+(b:Int).toNat) 1 (tb f).length)=true:=by simp only[fP,jL,Int.toNat_natCast,and_eq_true,decide_eq_true_eq];omega
theorem WN (f:Nat->Nat->Bool) {a b:Nat} (ha:a < 12) (hb:b < 12) (v:Bool):List.set (tb f) ((0+(a:Int).toNat*12)+(b:Int).toNat) v=tb (upd f a b v):=by simp only[Nat.zero_add,Int.toNat_natCast];exact afh f ha hb v
def abA (p:Nat->Bool):Bool:=(List.range 12).any p
theorem Cj {p:Nat->Bool}:abA p=true↔∃ b,b < 12∧p b=true:=by simp only[abA,any_eq_true,List.mem_range]
def rnd (w:Nat->Nat->Bool):Nat->Nat->Bool:=fun a c=>w a c || abA fun b=>w a b&&w b c
theorem YD {n:Nat} (hn:100<=n) {v2:List Bool} (h2:v2.length=144) (w f:Nat->Nat->Bool) {a b:Nat} (ha:a < 12) (hb:b < 12):
 iter (ow v2 (fq w) (a:Int) (b:Int)) n ((0:Int),tb f)=some (tb fun x y=>if x=a then f x y || (w a b&&w b y)else f x y):=by
 refine dJ (fun i=>((i:Int),tb fun x y=>if x=a∧y < i then f x y || (w a b&&w b y)else f x y)) 12 _ (by simp) (fun i hi=>?_) ?_ n (by omega)
 ·have e:decide ((i:Int) < 12)=true:=by simp;omega
  have hw:jZ v2 0 (fq w).l=tb w:=nZ w h2;simp only[ow,e,cond_true,sV,ha,hb,hi,decide_true,hw];generalize hF:(fun x y=>if x=a∧y < i then f x y || (w a b&&w b y)else f x y:Nat->Nat->Bool)=F;have hFa:F a i=f a i:=by rw[<- hF];simp
  have fin:∀ v,v=(f a i || (w a b&&w b i))->tb (upd F a i v)=tb fun x y=>if x=a∧y < i+1 then f x y || (w a b&&w b y)else f x y:=by
   intro v hv;refine kT fun x y _ _=>?_;simp only[upd,<- hF];by_cases h1:x=a
   ·subst h1;by_cases h3:y=i
    ·subst h3;simp[hv]
    ·by_cases h4:y < i
     ·simp[h3,h4,show y < i+1 by omega]
     ·simp[h3,h4,show ¬ y < i+1 by omega]
   ·simp[h1]
  simp only[Ea F ha hi,Ea w ha hb,Ea w hb hi,RO F ha hi,WN F ha hi,bind_some,cond_true,hFa,ay (show i < 9223372036854775807 by omega)];cases h1:f a i with
  |true=>simp only[cond_true,bind_some];rw[fin true (by simp[h1])]
  |false=>
   simp only[cond_false];cases h3:w a b with
   |true=>simp only[cond_true,bind_some];rw[fin (w b i) (by simp[h1,h3]),h3]
   |false=>simp only[cond_false,bind_some];rw[fin false (by simp[h1,h3]),h3]
 ·have e:decide (((12:Nat):Int) < 12)=false:=by decide
  simp only[ow,e,cond_false];rw[kT fun x y _ hy=>?_];by_cases h1:x=a<;>simp[h1,hy]
theorem YE {n:Nat} (hn:100<=n) {v2:List Bool} (h2:v2.length=144) (w f:Nat->Nat->Bool) {a:Nat} (ha:a < 12):
 iter (oz n v2 (fq w) (a:Int)) n ((0:Int),tb f)=some (tb fun x y=>if x=a then f x y || abA (fun b=>w a b&&w b y)else f x y):=by
 refine dJ (fun i=>((i:Int),tb fun x y=>if x=a then f x y || (List.range i).any (fun b=>w a b&&w b y)else f x y)) 12 _ (by simp) (fun i hi=>?_) ?_ n (by omega)
 ·have e:decide ((i:Int) < 12)=true:=by simp;omega
  simp only[oz,e,cond_true];rw[YD hn h2 w _ ha hi];simp only[bind_some,ay (show i < 9223372036854775807 by omega)];rw[kT fun x y _ _=>?_];by_cases h1:x=a
  ·simp[h1,List.range_succ,Bool.or_assoc]
  ·simp[h1]
 ·have e:decide (((12:Nat):Int) < 12)=false:=by decide
  simp only[oz,e,cond_false];rfl
theorem YF {n:Nat} (hn:100<=n) {v2:List Bool} (h2:v2.length=144) (w:Nat->Nat->Bool):
 iter (oC n v2 (fq w)) n ((0:Int),tb w)=some (tb (rnd w)):=by
 refine dJ (fun i=>((i:Int),tb fun x y=>if x < i then rnd w x y else w x y)) 12 _ (by simp) (fun i hi=>?_) ?_ n (by omega)
 ·have e:decide ((i:Int) < 12)=true:=by simp;omega
  simp only[oC,e,cond_true];rw[YE hn h2 w _ hi];simp only[bind_some,ay (show i < 9223372036854775807 by omega)];rw[kT fun x y _ _=>?_];by_cases h1:x=i
  ·subst h1;simp[rnd]
  ·by_cases h3:x < i
   ·simp[h1,h3,show x < i+1 by omega]
   ·simp[h1,h3,show ¬ x < i+1 by omega]
 ·have e:decide (((12:Nat):Int) < 12)=false:=by decide
  simp only[oC,e,cond_false];rw[kT fun x y hx _=>?_];simp[hx]
def cnt (l:List Bool):Nat:=l.countP id
theorem aea (l:List Bool):cnt l<=l.length:=List.countP_le_length
theorem cnt_lt:∀ {l m:List Bool},l.length=m.length->(∀ (i:Nat) (h:i < l.length) (h':i < m.length),l[i]=true->m[i]=true)->l≠m->cnt l < cnt m
 |[],[],_,_,h=>absurd rfl h
 |x::l,y::m,hl,hs,hne=>by
  have h0:=hs 0 (by simp) (by simp);have ht:∀ (i:Nat) (h:i < l.length) (h':i < m.length),l[i]=true->m[i]=true:=fun i h h'=>by
   have:=hs (i+1) (by simpa using h) (by simpa using h');simp only[List.getElem_cons_succ]at this;exact this
  simp only[List.getElem_cons_zero]at h0;have hl':l.length=m.length:=by simpa using hl
  have hle:cnt l<=cnt m:=by
   by_cases e:l=m
   ·rw[e];exact Nat.le_refl _
   ·exact Nat.le_of_lt (cnt_lt hl' ht e)
  simp only[cnt,List.countP_cons,id]at hle ⊢;by_cases e:l=m
  ·subst e;have:x≠y:=fun e=>hne (by rw[e]);cases x<;>cases y<;>simp_all
  ·have:=cnt_lt hl' ht e;simp only[cnt]at this;cases x<;>cases y<;>simp_all<;>omega
 |[],_::_,h,_,_=>by simp at h
 |_::_,[],h,_,_=>by simp at h
theorem afi {w:Nat->Nat->Bool} (h:tb w≠tb (rnd w)):cnt (tb w) < cnt (tb (rnd w)):=by
 refine cnt_lt (by rw[jL,jL]) (fun i h1 h2 hi=>?_) h;simp only[tb,List.getElem_map,List.getElem_range,rnd]at hi ⊢;simp[hi]
inductive Tc (e:Nat->Nat->Bool):Nat->Nat->Prop
 |one {a b:Nat}:a < 12->b < 12->e a b=true->Tc e a b
 |trans {a b c:Nat}:Tc e a b->Tc e b c->Tc e a c
theorem Tc.lt {e:Nat->Nat->Bool} {a b:Nat} (h:Tc e a b):a < 12∧b < 12:=by
 induction h with
 |one h1 h2 _=>exact⟨h1,h2⟩
 |trans _ _ i1 i2=>exact⟨i1.1,i2.2⟩
theorem KZ {n:Nat} (hn:400<=n) (m0:Nat->Nat->Bool):∃ r:Nat->Nat->Bool,qa n (fq m0)=some (fq r)∧(∀ a b,a < 12->b < 12->(r a b=true↔Tc m0 a b)):=by
 unfold qa;simp only[mK,jm,cond_true,nZ _ (jL _)]
 obtain⟨o,h1,r,rfl,hr1,hr2,hr3⟩:=ad9 (step:=uR n)
  (fun v=>∃ m w:Nat->Nat->Bool,v=(tb m,tb w)∧(∀ a b,a < 12->b < 12->m0 a b=true->m a b=true)∧(∀ a b,a < 12->b < 12->m a b=true->Tc m0 a b)∧(tb m=tb (rnd w)∨tb w=tb fun _ _=>false))
  (fun o=>∃ r:Nat->Nat->Bool,o=tb r∧(∀ a b,a < 12->b < 12->m0 a b=true->r a b=true)∧(∀ a b,a < 12->b < 12->r a b=true->Tc m0 a b)∧tb r=tb (rnd r))
  (fun v=>2*(144 - cnt v.1)+(if v.2=v.1 then 0 else 1)) (by
   rintro v ⟨m,w,rfl,h1,h2,h3⟩;simp only[uR,D9,bind_some];by_cases he:tb w=tb m
   ·refine .inr ⟨tb m,?_,m,rfl,h1,h2,?_⟩
    ·have:V7 (fq w).l (fq m).l=true:=(by show decide (tb w=tb m)=true;simp[he]);simp[this]
    ·rcases h3 with h3 |h3
     ·rw[h3];refine kT fun a b ha hb=>?_;have hwm:∀ x y,x < 12->y < 12->w x y=m x y:=fun x y hx hy=>WM he hx hy;simp only[rnd,hwm a b ha hb];congr 1;rw[Bool.eq_iff_iff,Cj,Cj];constructor
      ·rintro⟨c,hc,h⟩;exact⟨c,hc,by rw[<- hwm a c ha hc,<- hwm c b hc hb];exact h⟩
      ·rintro⟨c,hc,h⟩;exact⟨c,hc,by rw[hwm a c ha hc,hwm c b hc hb];exact h⟩
     ·have hm0:∀ x y,x < 12->y < 12->m x y=false:=fun x y hx hy=>WM (he.symm.trans h3) hx hy;refine kT fun a b ha hb=>?_;simp only[rnd,hm0 a b ha hb,Bool.false_or];symm;rw[Bool.eq_false_iff];intro h;obtain⟨c,hc,h⟩:=Cj.1 h;rw[hm0 a c ha hc]at h;simp at h
   ·refine .inl ⟨(tb (rnd m),tb m),?_,⟨rnd m,m,rfl,fun a b ha hb h=>by simp[rnd,h1 a b ha hb h],fun a b ha hb h=>?_,.inl rfl⟩,?_⟩
    ·have:V7 (fq w).l (fq m).l=false:=(by show decide (tb w=tb m)=false;simp[he]);simp only[this,Bool.not_false,cond_true,bind_some];have e1:(eqL (fq m).l.length 144&&fP 0 (fq m).l.length (tb w).length)=true:=jm m w;have e2:jZ (tb w) 0 (fq m).l=tb m:=nZ m (jL w);simp only[e1,cond_true,YF (show 100<=n by omega) (jL w) m,bind_some,e2,D9];have e3:(eqL (fq m).l.length 144&&fP 0 (fq m).l.length (List.replicate 144 false).length)=true:=(by rw[mK];exact jm m _);have e4:jZ (List.replicate 144 false) 0 (fq m).l=tb m:=nZ m xU;simp only[e3,e4,cond_true]
    ·simp only[rnd,Bool.or_eq_true]at h;rcases h with h |h
     ·exact h2 a b ha hb h
     ·obtain⟨c,hc,h⟩:=Cj.1 h;simp only[and_eq_true]at h;exact .trans (h2 a c ha hc h.1) (h2 c b hc hb h.2)
    ·simp only;have hc:=aea (tb m);rw[jL]at hc;rw[if_neg he];by_cases hr:tb m=tb (rnd m)
     ·rw[if_pos hr,<- hr];omega
     ·have:=afi hr;have hc2:=aea (tb (rnd m));rw[jL]at hc2;rw[if_neg hr];omega)
  n (tb m0,tb fun _ _=>false) ⟨m0,fun _ _=>false,rfl,fun _ _ _ _ h=>h,fun a b ha hb h=> .one ha hb h,.inr rfl⟩ (by
    simp only;split<;>omega)
 have e0:(fq m0).l=tb m0:=rfl;simp only[e0,h1,bind_some,D9];have e3:(eqL (fq r).l.length 144&&fP 0 (fq r).l.length (tb fun _ _=>false).length)=true:=jm r _;have e4:jZ (tb fun _ _=>false) 0 (fq r).l=tb r:=nZ r (jL _);simp only[e3,e4,cond_true,D9,bind_some];refine⟨r,rfl,fun a b ha hb=>⟨hr2 a b ha hb,fun h=>?_⟩⟩
 induction h with
 |one h1 h2 h3=>exact hr1 _ _ h1 h2 h3
 | @trans x y z p q i1 i2=>
  have:=WM hr3 p.lt.1 q.lt.2;rw[this];simp only[rnd,Bool.or_eq_true];exact .inr (Cj.2 ⟨y,p.lt.2,by rw[i1 p.lt.1 p.lt.2,i2 q.lt.1 q.lt.2];rfl⟩)
def MN (o:aV) (p:kr):Bool:=decide (0<=min p.a0 p.a1)&&decide (max p.a0 p.a1 < o.values)
def nI (o:aV):Bool:=decide (1<=o.values)&&decide (o.values<=12)&&decide (o.pairs.length<=144)&&o.pairs.all (MN o)
theorem HZ {α:Type} (p:α->Bool) (l:List α):(match kY (fun x=>!(p x)) l with |some _=>false |none=>true)=l.all p:=by
 have h:=l6 (fun x=>!(p x)) l;cases hf:kY (fun x=>!(p x)) l with
 |some i=>
  rw[hf]at h;simp only[Option.isSome_some]at h;have:l.all p=false:=by rw[List.all_eq_not_any_not];rw[<- h];rfl
  rw[this]
 |none=>
  rw[hf]at h;simp only[Option.isSome_none]at h;have:l.all p=true:=by rw[List.all_eq_not_any_not];rw[<- h];rfl
  rw[this]
theorem EG {n:Nat} (hn:200<=n) (o:aV):p8 n o=some (nI o):=by
 unfold p8 nI;by_cases h1:o.values < 1
 ·have:decide (1<=o.values)=false:=by simp;omega
  simp[h1,this]
 ·have e1:decide (1<=o.values)=true:=by simp;omega
  by_cases h2:o.values>12
  ·have:decide (o.values<=12)=false:=(by simp;omega);simp[h1,h2,this]
  ·have e2:decide (o.values<=12)=true:=(by simp;omega);by_cases h3:(o.pairs.length:Int)>144
   ·have:decide (o.pairs.length<=144)=false:=(by simp;omega);simp[h1,h2,h3,this]
   ·have e3:decide (o.pairs.length<=144)=true:=(by simp;omega);have hl:o.pairs.length<=144:=(by omega);simp only[h1,h2,h3,e1,e2,e3,decide_false,cond_false,bind_some,Bool.true_and];have:=kN (l:=o.pairs) (step:=oq o) (fun i=>(i:Int)) (fun p=>!(MN o p)) () (fun _=>false) (fun i hi=>by
     have e:decide ((i:Int) < (o.pairs.length:Int))=true:=(by simpa using hi);simp only[oq,e,cond_true,cB hi,bind_some,MN,ay (show i < 9223372036854775807 by omega)];by_cases h4:min o.pairs[i].a0 o.pairs[i].a1 < 0
     ·have:decide (0<=min o.pairs[i].a0 o.pairs[i].a1)=false:=(by simpa using h4);simp only[h4,this,decide_true,cond_true,bind_some,Bool.false_and,Bool.not_false,Option.map_some]
     ·have:decide (0<=min o.pairs[i].a0 o.pairs[i].a1)=true:=(by simpa using h4);simp only[h4,this,decide_false,cond_false,bind_some,Bool.true_and];by_cases h5:max o.pairs[i].a0 o.pairs[i].a1>=o.values
      ·have:decide (max o.pairs[i].a0 o.pairs[i].a1 < o.values)=false:=(by simpa using h5);simp only[h5,this,decide_true,cond_true,Bool.not_false,Option.map_some]
      ·have:decide (max o.pairs[i].a0 o.pairs[i].a1 < o.values)=true:=(by simp only[decide_eq_true_eq];omega);simp only[h5,this,decide_false,cond_false,Bool.not_true]) (by
     have e:decide ((o.pairs.length:Int) < (o.pairs.length:Int))=false:=(by simp);simp only[oq,e,cond_false]) n (by omega)
    rw[show ((0:Nat):Int)=0 from rfl]at this;rw[this];have hf:=HZ (MN o) o.pairs;cases hx:kY (fun p=>!(MN o p)) o.pairs with
    |some i=>rw[hx]at hf;simp only[rO];rw[<- hf]
    |none=>rw[hx]at hf;simp only[kM];rw[<- hf]
def eO (o:aV) (a b:Nat):Bool:=o.pairs.any fun p=>decide (p.a0=(a:Int))&&decide (p.a1=(b:Int))
theorem afj (l:List kr) (x y:Nat) (p:kr) (h0:p.a0=(x:Int)) (h1:p.a1=(y:Int)):upd (fun (a b:Nat)=>l.any fun p=>decide (p.a0=(a:Int))&&decide (p.a1=(b:Int))) x y true=fun (a b:Nat)=>(l++[p]).any fun p=>decide (p.a0=(a:Int))&&decide (p.a1=(b:Int)):=by
 funext a b;simp only[upd,List.any_append,List.any_cons,List.any_nil,Bool.or_false,h0,h1];by_cases h:a=x∧b=y
 ·obtain⟨rfl,rfl⟩:=h;simp
 ·rw[if_neg h];have:(decide ((x:Int)=(a:Int))&&decide ((y:Int)=(b:Int)))=false:=by
   simp only[Bool.and_eq_false_iff,decide_eq_false_iff_not];omega
  rw[this,Bool.or_false]
theorem aau {o:aV} (hv:nI o=true) {p:kr} (hp:p∈o.pairs):∃ x y:Nat,p.a0=(x:Int)∧p.a1=(y:Int)∧(x:Int) < o.values∧(y:Int) < o.values∧x < 12∧y < 12:=by
 simp only[nI,and_eq_true,decide_eq_true_eq,all_eq_true]at hv;obtain⟨⟨⟨h1,h2⟩,h3⟩,h4⟩:=hv;have:=h4 p hp;simp only[MN,and_eq_true,decide_eq_true_eq]at this;refine⟨p.a0.toNat,p.a1.toNat,?_,?_,?_,?_,?_,?_⟩<;>omega
theorem EH {n:Nat} (hn:200<=n) {o:aV} (hv:nI o=true):p9 n o=some (fq (eO o)):=by
 have hl:o.pairs.length<=144:=by simp only[nI,and_eq_true,decide_eq_true_eq]at hv;exact hv.1.2
 have:=dJ (step:=ou o) (fun i=>((i:Int),tb fun a b=>(o.pairs.take i).any fun p=>decide (p.a0=(a:Int))&&decide (p.a1=(b:Int)))) (s:=((0:Int),List.replicate 144 false)) o.pairs.length (tb (eO o)) (by
  simp only[List.take_zero,List.any_nil,mK];rfl) (fun i hi=>by
  have e:decide ((i:Int) < (o.pairs.length:Int))=true:=by simpa using hi
  obtain⟨x,y,h0,h1,_,_,hx,hy⟩:=aau hv (getElem_mem hi);have e2:o.pairs.take (i+1)=o.pairs.take i++[o.pairs[i]]:=by rw[take_succ_eq_append_getElem hi]
  simp only[ou,e,cond_true,cB hi,bind_some,h0,h1,sV,hx,hy,decide_true,ay (show i < 9223372036854775807 by omega)];rw[RO _ hx hy,WN _ hx hy,e2,afj _ x y _ h0 h1];simp only[cond_true]) (by
  have e:decide ((o.pairs.length:Int) < (o.pairs.length:Int))=false:=by simp
  simp only[ou,e,cond_false,List.take_length];rfl) n (by omega)
 unfold p9;rw[this];have e3:(eqL (fq (eO o)).l.length 144&&fP 0 (fq (eO o)).l.length (List.replicate 144 false).length)=true:=by rw[mK];exact jm _ _
 have e4:jZ (List.replicate 144 false) 0 (fq (eO o)).l=tb (eO o):=nZ _ xU;simp only[bind_some,D9,e3,e4,cond_true]
open Classical in
noncomputable def tcB (e:Nat->Nat->Bool) (a b:Nat):Bool:=decide (Tc e a b)
theorem Pv {e:Nat->Nat->Bool} {a b:Nat}:tcB e a b=true↔Tc e a b:=by simp[tcB]
theorem Oy {n:Nat} (hn:400<=n) (m0:Nat->Nat->Bool):qa n (fq m0)=some (fq (tcB m0)):=by
 obtain⟨r,h1,h2⟩:=KZ hn m0;rw[h1];have:tb r=tb (tcB m0):=kT fun a b ha hb=>by rw[Bool.eq_iff_iff,Pv];exact h2 a b ha hb
 simp only[fq,this]
open Classical in
noncomputable def RP (o:aV):Bool:=decide (∃ a,Tc (eO o) a a)
theorem YG {o:aV}:RP o=true↔∃ a,Tc (eO o) a a:=by simp[RP]
noncomputable def geO (o:aV) (a b:Nat):Bool:=tcB (eO o) a b || (decide (a=b)&&decide ((a:Int) < o.values))
def zeroM:bI:=fq fun _ _=>false
theorem YH:(bif eqL (List.replicate 144 false).length 144&&fP 0 (List.replicate 144 false).length (List.replicate 144 false).length then (bC (sub (jZ (List.replicate 144 false) 0 (List.replicate 144 false)) 0 144)).bind fun z1=>some (z1,false)else none)=some (zeroM,false):=by simp only[mK,jm,cond_true,nZ _ (jL _),D9,bind_some];rfl
theorem Ck {n:Nat} (hn:400<=n) (o:aV):nU n o=some (bif nI o&&!(RP o)then (fq (geO o),true)else (zeroM,false)):=by
 unfold nU;rw[EG (by omega),YH];simp only[bind_some];cases hv:nI o with
 |false=>simp
 |true=>
  have hb:1<=o.values∧o.values<=12:=by simp only[nI,and_eq_true,decide_eq_true_eq]at hv;exact⟨hv.1.1.1,hv.1.1.2⟩
  simp only[Bool.not_true,cond_false,EH (show 200<=n by omega) hv,bind_some,Oy hn,Bool.true_and];have e3:(eqL (fq (tcB (eO o))).l.length 144&&fP 0 (fq (tcB (eO o))).l.length (List.replicate 144 false).length)=true:=by rw[mK];exact jm _ _
  have e4:jZ (List.replicate 144 false) 0 (fq (tcB (eO o))).l=tb (tcB (eO o)):=nZ _ xU;simp only[e3,e4,cond_true];have h1:=kN (l:=List.range 12) (step:=l8 (fq (tcB (eO o)))) (fun i=>(i:Int)) (fun a=>tcB (eO o) a a) () (fun _=>(zeroM,false)) (fun i hi=>by
   rw[List.length_range]at hi;have e:decide ((i:Int) < 12)=true:=(by simp;omega);simp only[l8,e,cond_true,sV,hi,decide_true,e4,Ea _ hi hi,bind_some,List.getElem_range,ay (show i < 9223372036854775807 by omega)];cases tcB (eO o) i i with
   |false=>rfl
   |true=>
    have:=YH;have e5:(eqL (List.replicate 144 false).length 144&&fP 0 (List.replicate 144 false).length (List.replicate 144 false).length)=true:=(by rw[mK];exact jm _ _);simp only[e5,cond_true]at this ⊢;rw[this];rfl) (by
   rw[List.length_range];have e:decide (((12:Nat):Int) < 12)=false:=(by decide);simp only[l8,e,cond_false]) n (by simp;omega)
  rw[show ((0:Nat):Int)=0 from rfl]at h1;rw[h1];have hs:=l6 (fun a=>tcB (eO o) a a) (List.range 12);have hcy:RP o=(List.range 12).any fun a=>tcB (eO o) a a:=by
   rw[Bool.eq_iff_iff,YG,any_eq_true];constructor
   ·rintro⟨a,ha⟩;exact⟨a,List.mem_range.2 ha.lt.1,Pv.2 ha⟩
   ·rintro⟨a,_,ha⟩;exact⟨a,Pv.1 ha⟩
  rw[hcy,<- hs];cases hf:kY (fun a=>tcB (eO o) a a) (List.range 12)with
  |some i=>simp only[rO,Option.isSome_some,Bool.not_true,cond_false]
  |none=>
   simp only[kM,Option.isSome_none,Bool.not_false,cond_true];obtain⟨m,hm⟩:∃ m:Nat,o.values=(m:Int):=⟨o.values.toNat,by omega⟩;have h2:=dJ (step:=l9 o) (fun i=>((i:Int),tb fun a b=>tcB (eO o) a b || (decide (a=b)&&decide (a < i)))) (s:=((0:Int),tb (tcB (eO o)))) m (tb (geO o)) (by simp) (fun i hi=>by
    have e:decide ((i:Int) < o.values)=true:=(by simp;omega);have hi12:i < 12:=(by omega);simp only[l9,e,cond_true,sV,hi12,decide_true,ay (show i < 9223372036854775807 by omega)];rw[RO _ hi12 hi12,WN _ hi12 hi12];simp only[cond_true];rw[kT fun a b _ _=>?_];simp only[upd];by_cases h:a=i∧b=i
    ·obtain⟨rfl,rfl⟩:=h;simp
    ·rw[if_neg h];by_cases h4:a=b
     ·subst h4;have:¬ a=i:=fun h5=>h ⟨h5,h5⟩;have e6:decide (a < i+1)=decide (a < i):=(by simp only[decide_eq_decide];omega);rw[e6]
     ·simp[h4]) (by
    have e:decide ((m:Int) < o.values)=false:=(by simp;omega);simp only[l9,e,cond_false];rw[kT fun a b _ _=>?_];simp only[geO,hm,Int.ofNat_lt]) n (by omega)
   rw[h2];have e7:(eqL (fq (geO o)).l.length 144&&fP 0 (fq (geO o)).l.length (List.replicate 144 false).length)=true:=(by rw[mK];exact jm _ _);have e8:jZ (List.replicate 144 false) 0 (fq (geO o)).l=tb (geO o):=nZ _ xU;simp only[bind_some,D9,e7,e8,cond_true]
def vl (d:Nat->Nat):List Int:=(List.range 12).map fun i=>((d i:Nat):Int)
theorem MO (d:Nat->Nat):(vl d).length=12:=by simp[vl]
theorem agk (d:Nat->Nat) {x:Nat} (hx:x < 12):(vl d)[x]? =some ((d x:Nat):Int):=by
 simp only[vl,List.getElem?_map];rw[List.getElem?_range (by omega)];rfl
theorem YI {d d':Nat->Nat} (h:∀ x,x < 12->d x=d' x):vl d=vl d':=by
 refine List.map_congr_left fun i hi=>?_;rw[h i (List.mem_range.1 hi)]
def WO (d:Nat->Nat) (x v:Nat):Nat->Nat:=fun y=>if y=x then v else d y
theorem agl (d:Nat->Nat) {x:Nat} (hx:x < 12) (v:Nat):(vl d).set x ((v:Nat):Int)=vl (WO d x v):=by
 apply List.ext_getElem?;intro i;rw[List.getElem?_set];simp only[vl,List.getElem?_map,length_map,List.length_range];by_cases hi:i < 12
 ·rw[List.getElem?_range hi];by_cases e:x=i
  ·subst e;simp[WO,hx]
  ·rw[if_neg e];simp[WO,show ¬ i=x from fun h=>e h.symm]
 ·rw[List.getElem?_eq_none (by simp;omega)];by_cases e:x=i
  ·omega
  ·rw[if_neg e];rfl
def vlM (d:Nat->Nat):tY:=⟨vl d,MO d⟩
theorem agZ (d:Nat->Nat):rR (sub (vl d) 0 12)=some (vlM d):=by
 have h:sub (vl d) 0 12=vl d:=by rw[Ro,List.take_of_length_le (by rw[MO];omega)]
 unfold rR;rw[dif_pos (by rw[h];exact MO d)];simp[vlM,h]
theorem WQ {l:List Int} (d:Nat->Nat) (h:l.length=12):jZ l 0 (vl d)=vl d:=by
 simp only[jZ,List.take_zero,nil_append,Nat.zero_add,MO];rw[List.drop_of_length_le (by omega),append_nil]
theorem MP:(List.replicate 12 (0:Int)).length=12:=by simp
theorem WR (d:Nat->Nat):(eqL (vl d).length 12&&fP 0 (vl d).length (List.replicate 12 (0:Int)).length)=true:=by simp[MO,eqL,fP]
theorem WS (d:Nat->Nat) {x:Nat} (hx:x < 12):atO (vl d) 0 (x:Int)=some ((d x:Nat):Int):=by
 simp only[atO,Nat.zero_add,Int.toNat_natCast,show decide ((0:Int)<=(x:Int))=true by simp,cond_true];exact agk d hx
theorem WT (d:Nat->Nat) {x:Nat} (hx:x < 12):(decide ((0:Int)<=(x:Int))&&fP (0+(x:Int).toNat) 1 (vl d).length)=true:=by simp only[fP,MO,Int.toNat_natCast,and_eq_true,decide_eq_true_eq];omega
theorem aav (d:Nat->Nat) {x:Nat} (hx:x < 12) (v:Nat):List.set (vl d) (0+(x:Int).toNat) ((v:Nat):Int)=vl (WO d x v):=by simp only[Nat.zero_add,Int.toNat_natCast];exact agl d hx v
theorem agm:List.replicate 12 (0:Int)=vl fun _=>0:=by
 apply List.ext_getElem?;intro i;simp only[vl,List.getElem?_map,List.getElem?_replicate];by_cases hi:i < 12
 ·rw[if_pos hi,List.getElem?_range hi];rfl
 ·rw[if_neg hi,List.getElem?_eq_none (by simp;omega)];rfl
def rel (e:Nat->Nat->Bool) (a x y:Nat) (d:Nat->Nat):Nat->Nat:=if e x y=true∧x≠a then WO d x (min (d x) (d y+1))else d
def Eb (e:Nat->Nat->Bool) (a x k:Nat) (d:Nat->Nat):Nat->Nat:=(List.range' a k).foldl (fun d y=>rel e a x y d) d
def Jr (e:Nat->Nat->Bool) (a k:Nat) (d:Nat->Nat):Nat->Nat:=(List.range' a k).foldl (fun d x=>Eb e a x (12 - a) d) d
def EI (e:Nat->Nat->Bool) (a k:Nat):Nat->Nat:=(List.range k).foldl (fun d _=>Jr e a (12 - a) d) (fun x=>if x=a then 0 else 13)
def fE (e:Nat->Nat->Bool) (a:Nat):Nat->Nat:=EI e a 12
theorem aeb (e:Nat->Nat->Bool) (a x y:Nat) (d:Nat->Nat) (z:Nat):rel e a x y d z<=d z:=by
 unfold rel;split
 ·simp only[WO];split
  ·rename_i h;subst h;exact Nat.min_le_left _ _
  ·exact Nat.le_refl _
 ·exact Nat.le_refl _
theorem Cm {α:Type} (f:(Nat->Nat)->α->Nat->Nat) (hf:∀ d x z,f d x z<=d z):∀ (l:List α) (d:Nat->Nat) (z:Nat),l.foldl f d z<=d z
 |[],_,_=>Nat.le_refl _
 |x::l,d,z=>Nat.le_trans (Cm f hf l _ z) (hf d x z)
theorem MQ (e:Nat->Nat->Bool) (a x k:Nat) (d:Nat->Nat) (z:Nat):Eb e a x k d z<=d z:=Cm _ (fun d y z=>aeb e a x y d z) _ d z
theorem MR (e:Nat->Nat->Bool) (a k:Nat) (d:Nat->Nat) (z:Nat):Jr e a k d z<=d z:=Cm _ (fun d x z=>MQ e a x _ d z) _ d z
theorem YJ (e:Nat->Nat->Bool) (a k:Nat) (z:Nat):EI e a k z<=13:=by
 refine Nat.le_trans (Cm _ (fun d _ z=>MR e a _ d z) _ _ z) ?_;split<;>omega
theorem range'_succ (a k:Nat):List.range' a (k+1)=List.range' a k++[a+k]:=by rw[List.range'_concat];simp
theorem aaw {n:Nat} (hn:100<=n) (e:Nat->Nat->Bool) {a x:Nat} (ha:a < 12) (hx:x < 12) (d:Nat->Nat) (hd:∀ z,d z<=13):
 iter (ql (fq e) (a:Int) (x:Int)) n ((a:Int),vl d)=some (vl (Eb e a x (12 - a) d)):=by
 refine dJ (fun i=>(((a+i:Nat):Int),vl (Eb e a x i d))) (12 - a) _ (by simp[Eb]) (fun i hi=>?_) ?_ n (by omega)
 ·have e1:decide (((a+i:Nat):Int) < 12)=true:=by simp only[decide_eq_true_eq];omega
  have h12:a+i < 12:=by omega
  generalize hD:Eb e a x i d=D;have hDle:∀ z,D z<=13:=fun z=>by rw[<- hD];exact Nat.le_trans (MQ _ _ _ _ _ _) (hd z)
  have hN:Eb e a x (i+1) d=rel e a x (a+i) D:=by rw[<- hD];simp[Eb,range'_succ,List.foldl_append]
  have hM:(fq e).l=tb e:=rfl;simp only[ql,e1,cond_true,sV,hx,h12,decide_true,hM,Ea e hx h12,bind_some,ay (show a+i < 9223372036854775807 by omega)];rw[hN,show a+(i+1)=a+i+1 by omega];cases h1:e x (a+i)with
  |false=>simp only[cond_false,bind_some,rel,h1];simp
  |true=>
   simp only[cond_true,bind_some];by_cases h2:x=a
   ·have:((x:Int) != (a:Int))=false:=(by subst h2;simp);simp only[this,cond_false,bind_some,rel];simp[h2]
   ·have:((x:Int) != (a:Int))=true:=(by simp;omega);simp only[this,cond_true,WS D hx,WS D h12,bind_some];have e2:min ((D x:Nat):Int) (i64.wrap (((D (a+i):Nat):Int)+1))=((min (D x) (D (a+i)+1):Nat):Int):=(by rw[ay (by have:=hDle (a+i);omega)];omega);simp only[e2,WT D hx,aav D hx,cond_true,bind_some];simp only[rel,h1,ne_eq,h2,not_false_eq_true,and_self,if_true]
 ·have e1:decide (((a+(12 - a):Nat):Int) < 12)=false:=by simp only[decide_eq_false_iff_not];omega
  simp only[ql,e1,cond_false]
theorem aax {n:Nat} (hn:100<=n) (e:Nat->Nat->Bool) {a:Nat} (ha:a < 12) (d:Nat->Nat) (hd:∀ z,d z<=13):
 iter (qm n (fq e) (a:Int)) n ((a:Int),vl d)=some (vl (Jr e a (12 - a) d)):=by
 refine dJ (fun i=>(((a+i:Nat):Int),vl (Jr e a i d))) (12 - a) _ (by simp[Jr]) (fun i hi=>?_) ?_ n (by omega)
 ·have e1:decide (((a+i:Nat):Int) < 12)=true:=by simp only[decide_eq_true_eq];omega
  simp only[qm,e1,cond_true];rw[aaw hn e ha (show a+i < 12 by omega) _ fun z=>Nat.le_trans (MR _ _ _ _ _) (hd z)];simp only[bind_some,ay (show a+i < 9223372036854775807 by omega)];rw[show a+(i+1)=a+i+1 by omega];simp[Jr,range'_succ,List.foldl_append]
 ·have e1:decide (((a+(12 - a):Nat):Int) < 12)=false:=by simp only[decide_eq_false_iff_not];omega
  simp only[qm,e1,cond_false]
theorem aay {n:Nat} (hn:100<=n) (e:Nat->Nat->Bool) {a:Nat} (ha:a < 12):
 iter (qo n (fq e) (a:Int)) n ((0:Int),vl fun x=>if x=a then 0 else 13)=some (vl (fE e a)):=by
 refine dJ (fun i=>((i:Int),vl (EI e a i))) 12 _ (by simp[EI]) (fun i hi=>?_) ?_ n (by omega)
 ·have e1:decide ((i:Int) < 12)=true:=by simp only[decide_eq_true_eq];omega
  simp only[qo,e1,cond_true];rw[aax hn e ha _ fun z=>YJ _ _ _ z];simp only[bind_some,ay (show i < 9223372036854775807 by omega)];simp[EI,List.range_succ,List.foldl_append]
 ·have e1:decide (((12:Nat):Int) < 12)=false:=by decide
  simp only[qo,e1,cond_false];rfl
theorem GJ {n:Nat} (hn:100<=n) (e:Nat->Nat->Bool) {a:Nat} (ha:a < 12):uo n (fq e) (a:Int)=some (vlM (fE e a)):=by
 have h1:iter qj n ((0:Int),List.replicate 12 (0:Int))=some (vl fun _=>13):=by
  refine dJ (fun i=>((i:Int),vl fun x=>if x < i then 13 else 0)) 12 _ (by rw[agm];simp) (fun i hi=>?_) ?_ n (by omega)
  ·have e1:decide ((i:Int) < 12)=true:=(by simp only[decide_eq_true_eq];omega);have e2:(13:Int)=((13:Nat):Int):=rfl;simp only[qj,e1,cond_true,sV,hi,decide_true,ay (show i < 9223372036854775807 by omega),WT _ hi];rw[e2,aav _ hi 13];rw[YI fun x _=>?_];simp only[WO];by_cases h:x=i
   ·subst h;simp
   ·rw[if_neg h];by_cases h3:x < i
    ·simp[h3,show x < i+1 by omega]
    ·simp[h3,show ¬ x < i+1 by omega]
  ·have e1:decide (((12:Nat):Int) < 12)=false:=(by decide);simp only[qj,e1,cond_false];rw[YI fun x hx=>?_];rw[if_pos hx]
 unfold uo;rw[h1];have e0:(0:Int)=((0:Nat):Int):=rfl;have e5:List.set (vl fun _=>13) (0+(a:Int).toNat) (0:Int)=vl fun x=>if x=a then 0 else 13:=by rw[e0,aav _ ha 0];rfl
 have e7:(eqL (vlM (fE e a)).l.length 12&&fP 0 (vlM (fE e a)).l.length (List.replicate 12 (0:Int)).length)=true:=WR _;have e8:jZ (List.replicate 12 (0:Int)) 0 (vlM (fE e a)).l=vl (fE e a):=WQ _ MP;simp only[bind_some,sV,ha,decide_true,cond_true,WT _ ha,e5,aay hn e ha,agZ,e7,e8]
inductive Wy (e:Nat->Nat->Bool) (a:Nat):Nat->Nat->Prop
 |nil:Wy e a a 0
 |step {x y k:Nat}:a<=x->x < 12->x≠a->a<=y->y < 12->e x y=true->Wy e a y k->Wy e a x (k+1)
theorem gD {a k x:Nat}:x∈List.range' a k↔a<=x∧x < a+k:=by
 rw[List.mem_range'];constructor
 ·rintro⟨i,h1,h2⟩;omega
 ·rintro⟨h1,h2⟩;exact⟨x - a,by omega,by omega⟩
theorem wP {α β:Type} (P:β->Prop) (f:β->α->β):∀ (l:List α) (b:β),P b->(∀ b,P b->∀ x∈l,P (f b x))->P (l.foldl f b)
 |[],_,h,_=>h
 |x::l,b,h,hf=>wP P f l _ (hf b h x (by simp)) fun b hb y hy=>hf b hb y (by simp[hy])
def Snd (e:Nat->Nat->Bool) (a:Nat) (d:Nat->Nat):Prop:=∀ x,d x < 13->Wy e a x (d x)
theorem afk {e:Nat->Nat->Bool} {a x y:Nat} {d:Nat->Nat} (hx:a<=x∧x < 12) (hy:a<=y∧y < 12) (h:Snd e a d):Snd e a (rel e a x y d):=by
 unfold rel;split
 ·rename_i h1;intro z hz;simp only[WO]at hz ⊢;split at hz
  ·rename_i h2;subst h2;rw[if_pos rfl];by_cases h3:d z<=d y+1
   ·rw[Nat.min_eq_left h3]at hz ⊢;exact h z hz
   ·rw[Nat.min_eq_right (by omega)]at hz ⊢;exact .step hx.1 hx.2 h1.2 hy.1 hy.2 h1.1 (h y (by omega))
  ·rename_i h2;rw[if_neg h2];exact h z hz
 ·exact h
theorem YK (e:Nat->Nat->Bool) {a:Nat} (ha:a < 12) (k:Nat):Snd e a (EI e a k):=by
 refine wP _ _ _ _ (fun x hx=>?_) fun d hd _ _=>wP _ _ _ _ hd fun d hd x hx=>wP _ _ _ _ hd fun d hd y hy=>?_
 ·split at hx
  ·rename_i h;subst h;rw[if_pos rfl];exact .nil
  ·omega
 ·rw[gD]at hx hy;exact afk (by omega) (by omega) hd
theorem YL {α:Type} (f:(Nat->Nat)->α->Nat->Nat) (hf:∀ d x z,f d x z<=d z) (l:List α) (x:α) (hx:x∈l) (P:(Nat->Nat)->Prop) (hP:∀ d d',P d->(∀ z,d' z<=d z)->P d') (Q:(Nat->Nat)->Prop) (hQ:∀ d d',Q d->(∀ z,d' z<=d z)->Q d') (h:∀ d,P d->Q (f d x)) (d:Nat->Nat) (hd:P d):Q (l.foldl f d):=by
 obtain⟨l1,l2,rfl⟩:=List.append_of_mem hx;rw[List.foldl_append,foldl_cons];exact hQ _ _ (h _ (hP _ _ hd fun z=>Cm f hf l1 d z)) fun z=>Cm f hf l2 _ z
theorem YM (e:Nat->Nat->Bool) {a:Nat} (ha:a < 12):∀ k x j,Wy e a x j->j<=k->EI e a k x<=j:=by
 intro k
 induction k with
 |zero=>
  intro x j h hj;cases h with
  |nil=>simp[EI]
  |step=>omega
 |succ k ih=>
  intro x j h hj;have e1:EI e a (k+1)=Jr e a (12 - a) (EI e a k):=by simp[EI,List.range_succ,List.foldl_append]
  rw[e1];cases h with
  |nil=>exact Nat.le_trans (MR _ _ _ _ _) (ih _ _ .nil (by omega))
  | @step _ y j h1 h2 h3 h4 h5 h6 h7=>
   refine YL (fun d x=>Eb e a x (12 - a) d) (fun d x z=>MQ e a x _ d z) (List.range' a (12 - a)) x (gD.2 (by omega)) (fun d=>d y<=j) (fun d d' h h'=>Nat.le_trans (h' y) h) (fun d=>d x<=j+1) (fun d d' h h'=>Nat.le_trans (h' x) h) (fun d hd=>?_) _ (ih y j h7 (by omega));refine YL (fun d y=>rel e a x y d) (fun d y z=>aeb e a x y d z) (List.range' a (12 - a)) y (gD.2 (by omega)) (fun d=>d y<=j) (fun d d' h h'=>Nat.le_trans (h' y) h) (fun d=>d x<=j+1) (fun d d' h h'=>Nat.le_trans (h' x) h) (fun d hd=>?_) _ hd;simp only[rel,h6,ne_eq,h3,not_false_eq_true,and_self,if_true,WO];omega
def Mn (e:Nat->Nat->Bool) (a x k:Nat):Prop:=Wy e a x k∧∀ j,Wy e a x j->k<=j
theorem abB {e:Nat->Nat->Bool} {a x k:Nat} (h:Mn e a x (k+1)):∃ y,a<=y∧y < 12∧e x y=true∧Mn e a y k:=by
 obtain⟨h,hm⟩:=h;cases h with
 | @step _ y _ h1 h2 h3 h4 h5 h6 h7=>
  refine⟨y,h4,h5,h6,h7,fun j hj=>?_⟩;have:=hm _ (.step h1 h2 h3 h4 h5 h6 hj);omega
theorem afl {e:Nat->Nat->Bool} {a:Nat} (ha:a < 12):∀ k x,Mn e a x k->∃ l:List Nat,l.length=k+1∧l.Nodup∧∀ y∈l,y < 12∧∃ j,j<=k∧Mn e a y j:=by
 intro k
 induction k with
 |zero=>
  intro x h;refine⟨[x],rfl,by simp,fun y hy=>?_⟩;simp only[mem_singleton]at hy;subst hy;refine⟨?_,0,Nat.le_refl _,h⟩;cases h.1;exact ha
 |succ k ih=>
  intro x h;obtain⟨y,h1,h2,h3,h4⟩:=abB h;obtain⟨l,h5,h6,h7⟩:=ih y h4;refine⟨x::l,by simp[h5],?_,fun z hz=>?_⟩
  ·rw[List.nodup_cons];refine⟨fun hx=>?_,h6⟩;obtain⟨_,j,hj,hm⟩:=h7 x hx;have:=h.2 _ hm.1;omega
  ·rcases mem_cons.1 hz with rfl |hz
   ·refine⟨?_,k+1,Nat.le_refl _,h⟩;cases h.1 with
    |step _ h=>exact h
   ·obtain⟨h8,j,hj,hm⟩:=h7 z hz;exact⟨h8,j,by omega,hm⟩
theorem YN:∀ (N:Nat) (l:List Nat),l.Nodup->(∀ y∈l,y < N)->l.length<=N
 | 0,[],_,_=>Nat.le_refl _
 | 0,x::l,_,h=>absurd (h x (by simp)) (by omega)
 |N+1,l,hn,h=>by
  have h1:=YN N (l.filter fun y=>decide (y≠N)) (hn.filter _) (fun y hy=>by
   rw[List.mem_filter]at hy;have:=h y hy.1;have:=hy.2;simp only[decide_eq_true_eq]at this;omega)
  have h2:=List.length_eq_countP_add_countP (fun y=>decide (y≠N)) (l:=l);rw[List.countP_eq_length_filter]at h2;have h3:List.countP (fun a=>decide ¬(decide (a≠N)=true)) l=l.count N:=by
   rw[List.count];refine List.countP_congr fun y _=>?_;simp
  have h4:=List.nodup_iff_count.1 hn N;omega
theorem ag0 {e:Nat->Nat->Bool} {a:Nat} (ha:a < 12) {k x:Nat} (h:Mn e a x k):k<=11:=by
 obtain⟨l,h1,h2,h3⟩:=afl ha k x h;have:=YN 12 l h2 fun y hy=>(h3 y hy).1;omega
theorem ag1 {e:Nat->Nat->Bool} {a:Nat}:∀ k x,Wy e a x k->∃ j,Mn e a x j:=by
 intro k
 induction k using Nat.strongRecOn with
 |ind k ih=>
  intro x h;by_cases hm:∀ j,Wy e a x j->k<=j
  ·exact⟨k,h,hm⟩
  ·simp only[Classical.not_forall,Nat.not_le]at hm;obtain⟨j,hj,hlt⟩:=hm;exact ih j hlt x hj
theorem abC (e:Nat->Nat->Bool) {a:Nat} (ha:a < 12) {x k:Nat} (h:Mn e a x k):fE e a x=k:=by
 have h1:=ag0 ha h;have h2:=YM e ha 12 x k h.1 (by omega);have h3:=YK e ha 12 x (by omega);have:=h.2 _ h3;show EI e a 12 x=k;omega
theorem afm (e:Nat->Nat->Bool) {a:Nat} (ha:a < 12) {x:Nat} (h:fE e a x < 13):Mn e a x (fE e a x):=by
 obtain⟨j,hj⟩:=ag1 _ _ (YK e ha 12 x h);rw[abC e ha hj];exact hj
def Vb (e:Nat->Nat->Bool) (d:Nat->Nat) (x:Nat) (s:Nat×Nat) (y:Nat):Nat×Nat:=if e x y=true∧d y+1 < s.1 then (d y+1,x)else s
def WU (e:Nat->Nat->Bool) (x k:Nat) (s:Nat×Nat):Nat×Nat:=(List.range' x k).foldl (Vb e (fE e x) x) s
def EJ (e:Nat->Nat->Bool) (k:Nat):Nat×Nat:=(List.range k).foldl (fun s x=>WU e x (12 - x) s) (13,0)
theorem aaz {n:Nat} (hn:100<=n) (e:Nat->Nat->Bool) {x:Nat} (hx:x < 12) (s:Nat×Nat):
 iter (mF (fq e) (x:Int) (vlM (fE e x))) n ((s.1:Int),(s.2:Int),(x:Int))=some (((WU e x (12 - x) s).1:Int),((WU e x (12 - x) s).2:Int)):=by
 refine dJ (fun i=>(((WU e x i s).1:Int),((WU e x i s).2:Int),((x+i:Nat):Int))) (12 - x) _ (by simp[WU]) (fun i hi=>?_) ?_ n (by omega)
 ·have e1:decide (((x+i:Nat):Int) < 12)=true:=by simp only[decide_eq_true_eq];omega
  have h12:x+i < 12:=by omega
  generalize hD:WU e x i s=D;have hN:WU e x (i+1) s=Vb e (fE e x) x D (x+i):=by rw[<- hD];simp[WU,range'_succ,List.foldl_append]
  have hM:(fq e).l=tb e:=rfl;have hV:jZ (List.replicate 12 (0:Int)) 0 (vlM (fE e x)).l=vl (fE e x):=WQ _ MP;have hle:=YJ e x 12 (x+i);have hle:fE e x (x+i)<=13:=hle;simp only[mF,e1,cond_true,sV,hx,h12,decide_true,hM,hV,Ea e hx h12,WS _ h12,bind_some,ay (show x+i < 9223372036854775807 by omega),ay (show fE e x (x+i) < 9223372036854775807 by omega)];rw[hN,show x+(i+1)=x+i+1 by omega];cases h1:e x (x+i)with
  |false=>simp only[cond_false,bind_some,Vb,h1];simp
  |true=>
   simp only[cond_true,bind_some];by_cases h2:fE e x (x+i)+1 < D.1
   ·have:decide (((fE e x (x+i)+1:Nat):Int) < (D.1:Int))=true:=(by simp only[decide_eq_true_eq];omega);simp only[this,cond_true,bind_some,Vb,h1,h2,and_self,if_true]
   ·have:decide (((fE e x (x+i)+1:Nat):Int) < (D.1:Int))=false:=(by simp only[decide_eq_false_iff_not];omega);simp only[this,cond_false,bind_some,Vb,h1,h2,and_false,if_false]
 ·have e1:decide (((x+(12 - x):Nat):Int) < 12)=false:=by simp only[decide_eq_false_iff_not];omega
  simp only[mF,e1,cond_false]
theorem aaA {n:Nat} (hn:100<=n) (e:Nat->Nat->Bool):
 iter (mG n (fq e)) n ((13:Int),(0:Int),(0:Int))=some (((EJ e 12).1:Int),((EJ e 12).2:Int)):=by
 refine dJ (fun i=>(((EJ e i).1:Int),((EJ e i).2:Int),(i:Int))) 12 _ (by simp[EJ]) (fun i hi=>?_) ?_ n (by omega)
 ·have e1:decide ((i:Int) < 12)=true:=by simp only[decide_eq_true_eq];omega
  have hM:(fq e).l=tb e:=rfl;have hV:(eqL (vlM (fE e i)).l.length 12&&fP 0 (vlM (fE e i)).l.length (List.replicate 12 (0:Int)).length)=true:=WR _;simp only[mG,e1,cond_true,hM,D9,bind_some,GJ hn e hi,hV,aaz hn e hi,ay (show i < 9223372036854775807 by omega)];simp[EJ,List.range_succ,List.foldl_append]
 ·have e1:decide (((12:Nat):Int) < 12)=false:=by decide
  simp only[mG,e1,cond_false]
def OkC (e:Nat->Nat->Bool) (s:Nat×Nat):Prop:=s=(13,0)∨s.2 < 12∧s.1<=12∧∃ y,s.2<=y∧y < 12∧e s.2 y=true∧fE e s.2 y+1=s.1
theorem aec (e:Nat->Nat->Bool) {k:Nat} (hk:k<=12):OkC e (EJ e k):=by
 refine wP _ _ _ _ (.inl rfl) fun s hs x hx=>wP _ _ _ _ hs fun s hs y hy=>?_;rw[List.mem_range]at hx;rw[gD]at hy;unfold Vb;split
 ·rename_i h;refine .inr ⟨by show x < 12;omega,?_,y,hy.1,by omega,h.1,rfl⟩;show fE e x y+1<=12;rcases hs with rfl |⟨_,h2,_⟩
  ·have:=h.2;simp only at this;omega
  ·omega
 ·exact hs
def Vd (e:Nat->Nat->Bool) (w x k:Nat):Option Nat:=(List.range' w (12 - w)).find? fun v=>e x v&&decide (fE e w v=k)
def YO (e:Nat->Nat->Bool) (w:Nat):Nat->Nat->List Nat
 | 0,x=>[x]
 |k+1,x=>x::match Vd e w x (k+1)with
  |some v=>YO e w k v
  |none=>[]
def WV (e:Nat->Nat->Bool):List Nat:=if (EJ e 12).1=13 then []else YO e (EJ e 12).2 ((EJ e 12).1 - 1) (EJ e 12).2
theorem RQ {e:Nat->Nat->Bool} {w x k v:Nat} (h:Vd e w x k=some v):w<=v∧v < 12∧e x v=true∧fE e w v=k:=by
 have h1:=List.mem_of_find?_eq_some h;have h2:=List.find?_some h;rw[gD]at h1;simp only[and_eq_true,decide_eq_true_eq]at h2;by_cases hw:w<=12
 ·exact⟨h1.1,by omega,h2⟩
 ·omega
theorem aed {e:Nat->Nat->Bool} {w x k y:Nat} (h1:w<=y) (h2:y < 12) (h3:e x y=true) (h4:fE e w y=k):∃ v,Vd e w x k=some v:=by
 cases h:Vd e w x k with
 |some v=>exact⟨v,rfl⟩
 |none=>
  unfold Vd at h;rw[List.find?_eq_none]at h;exact absurd (by simp[h3,h4]) (h y (gD.2 (by omega)))
theorem aaB {p:Nat->Bool} {w k v:Nat} (h:(List.range' w k).find? p=some v):w<=v∧p v=true∧∀ i,w<=i->i < v->p i=false:=by
 have h1:=List.mem_of_find?_eq_some h;rw[gD]at h1;refine⟨h1.1,List.find?_some h,fun i hi hv=>?_⟩;rw[List.find?_eq_some_iff_append]at h;obtain⟨_,l1,l2,h2,h3⟩:=h;have h4:i∈l1:=by
  have hm:i∈List.range' w k:=gD.2 (by omega);rw[h2]at hm;rcases mem_append.1 hm with hm |hm
  ·exact hm
  ·have hp:(List.range' w k).Pairwise (· < ·):=List.pairwise_lt_range';rw[h2,pairwise_append]at hp;rcases mem_cons.1 hm with rfl |hm
   ·omega
   ·have:=(pairwise_cons.1 hp.2.1).1 i hm;omega
 have:=h3 i h4;simpa using this
theorem aaC {n:Nat} (hn:100<=n) (e:Nat->Nat->Bool) {w x v:Nat} (hx:x < 12) (b k:Nat) (hb:b<=12) (pre:List Int) (hk:pre.length+1+k=b) (hv:Vd e w x k=some v):
 iter (mH (fq e) (b:Int) (vlM (fE e w))) n ((w:Int),pre++[(x:Int)])=some (pre++[(x:Int)]++[(v:Int)]):=by
 have hv2:=RQ hv;obtain⟨h1,h2,h3⟩:=aaB hv;have hM:(fq e).l=tb e:=rfl;have hV:jZ (List.replicate 12 (0:Int)) 0 (vlM (fE e w)).l=vl (fE e w):=WQ _ MP;have hlen:(pre++[(x:Int)]).length=pre.length+1:=by simp
 have hlast:at? (pre++[(x:Int)]) (((0:Nat):Int)+((pre.length:Nat):Int))=some (x:Int):=by rw[DF];simp
 have hw1:i64.wrap (((pre.length+1:Nat):Int) - 1)=((pre.length:Nat):Int):=by rw[lZ (by omega) (by omega)];congr 1
 have hw2:i64.wrap ((b:Int) - ((pre.length+1:Nat):Int))=(k:Int):=by rw[dD]<;>omega
 have body:∀ i:Nat,i < 12->mH (fq e) (b:Int) (vlM (fE e w)) ((i:Int),pre++[(x:Int)])=some (bif e x i&&decide (fE e w i=k)then .inr (pre++[(x:Int)]++[(i:Int)])else .inl (((i+1:Nat):Int),pre++[(x:Int)])):=by
  intro i hi;have hin:decide (pre.length < pre.length+1)=true:=by simp
  have hs1:sub ([(i:Int)]:List Int) 0 1=[(i:Int)]:=rfl;have hap:bG (pre.length+1) (pre.length+1) 1 1 8=true:=cZ (by omega) (by simp only[maxLen];omega);simp only[mH,hlen,hw1,hw2,sV,hin,hlast,cond_true,bind_some,hx,hi,decide_true,hM,hV,Ea e hx hi,WS _ hi,hs1,length_singleton,hap,fF,aA,ay (show i < 9223372036854775807 by omega)];cases h1:e x i with
  |false=>simp only[cond_false,bind_some,Bool.false_and]
  |true=>
   have:(((fE e w i:Nat):Int)==(k:Int))=decide (fE e w i=k):=(by rw[Bool.eq_iff_iff,beq_iff_eq,decide_eq_true_eq];omega);simp only[cond_true,bind_some,Bool.true_and,this];cases decide (fE e w i=k)<;>rfl
 refine dJ (fun i=>(((w+i:Nat):Int),pre++[(x:Int)])) (v - w) _ (by simp) (fun i hi=>?_) ?_ n (by omega)
 ·rw[body _ (by omega),h3 (w+i) (by omega) (by omega),show w+(i+1)=w+i+1 by omega];rfl
 ·rw[show w+(v - w)=v by omega,body _ hv2.2.1,h2];rfl
theorem RS {m:Nat} (hm:100<=m) (e:Nat->Nat->Bool) {w:Nat} (hw:w < 12) (b:Nat) (hb:b<=12):∀ k n x (pre:List Int),k < n->x < 12->pre.length+1+k=b->(k=0∨∃ y,w<=y∧y < 12∧e x y=true∧fE e w y=k)->
 iter (mI m (fq e) (b:Int) (w:Int) (vlM (fE e w))) n (pre++[(x:Int)])=some (pre++(YO e w k x).map fun i:Nat=>(i:Int))
 | 0,n,x,pre,hn,hx,hl,_=>by
  obtain⟨n,rfl⟩:∃ k,n=k+1:=⟨n - 1,by omega⟩;have e1:decide ((((pre++[(x:Int)]).length:Nat):Int) < (b:Int))=false:=by simp only[decide_eq_false_iff_not,length_append,length_singleton];omega
  refine aU ?_;simp only[mI,e1,cond_false,aA,cond_true,YO,map_cons,map_nil]
 |k+1,n,x,pre,hn,hx,hl,hy=>by
  obtain⟨n,rfl⟩:∃ k,n=k+1:=⟨n - 1,by omega⟩;have e1:decide ((((pre++[(x:Int)]).length:Nat):Int) < (b:Int))=true:=by simp only[decide_eq_true_eq,length_append,length_singleton];omega
  rcases hy with hy |⟨y,h1,h2,h3,h4⟩
  ·omega
  ·obtain⟨v,hv⟩:=aed h1 h2 h3 h4;have hv2:=RQ hv;rw[bM (v':=pre++[(x:Int)]++[(v:Int)])]
   ·rw[RS hm e hw b hb k n v (pre++[(x:Int)]) (by omega) hv2.2.1 (by simp;omega) ?_]
    ·simp only[YO,hv,map_cons,List.append_assoc,List.singleton_append]
    ·by_cases hk:k=0
     ·exact .inl hk
     ·refine .inr ?_;have hl:=afm e hw (x:=v) (by omega);rw[hv2.2.2.2]at hl;obtain⟨z,h5,h6,h7,h8⟩:=abB hl;exact⟨z,h5,h6,h7,by rw[abC e hw h8]⟩
   ·simp only[mI,e1,cond_true,aA,aaC hm e hx b (k+1) hb pre hl hv,bind_some]
theorem MS {n:Nat} (hn:100<=n) (e:Nat->Nat->Bool):tq n (fq e)=some ((WV e).map fun i:Nat=>(i:Int)):=by
 unfold tq WV;rw[aaA hn];simp only[bind_some];rcases aec e (Nat.le_refl 12)with h |⟨h1,h2,y,h3,h4,h5,h6⟩
 ·rw[h];simp
 ·generalize EJ e 12=s at h1 h2 h3 h4 h5 h6;obtain⟨b,w⟩:=s;simp only at h1 h2 h3 h4 h5 h6 ⊢;have e1:((b:Int)==13)=false:=by simp;omega
  have hM:(fq e).l=tb e:=rfl;have hV:(eqL (vlM (fE e w)).l.length 12&&fP 0 (vlM (fE e w)).l.length (List.replicate 12 (0:Int)).length)=true:=WR _;have:=RS hn e h1 b h2 (b - 1) n w [] (by omega) h1 (by simp;omega) (.inr ⟨y,h3,h4,h5,by omega⟩);simp only[nil_append]at this;simp only[e1,cond_false,hM,D9,bind_some,GJ hn e h1,hV,cond_true,length_singleton,aA,this,bH];rw[if_neg (by omega)]
theorem MU {l:List Bool} (h:l.length < 1099511627776):AB l=some l:=tV (b:=1) (by omega) (by simp only[maxLen];omega)
noncomputable def EK (o:aV):List (List Bool):=(List.range o.values.toNat).map fun a=>(List.range o.values.toNat).map fun b=>geO o a b
noncomputable def xV (o:aV):List (List Bool)×List Int×Int:=
 bif !(nI o)then ([],[],1)else bif RP o then ([],(WV (eO o)).map (fun i:Nat=>(i:Int)),16)else (EK o,[],0)
theorem afn (f:Nat->Nat->Bool) {a m:Nat} (ha:a < 12) (hm:m<=12):sub (tb f) (0+a*12) m=(List.range m).map (f a):=by
 apply List.ext_getElem?;intro i;simp only[sub,List.getElem?_take,List.getElem?_drop,List.getElem?_map];by_cases hi:i < m
 ·rw[if_pos hi,show 0+a*12+i=a*12+i by omega,Ps f ha (by omega),List.getElem?_range hi];rfl
 ·rw[if_neg hi,List.getElem?_eq_none (by simp;omega)];rfl
theorem K3 {n:Nat} (hn:400<=n) (o:aV):qp n o=some (xV o):=by
 unfold qp xV;rw[Ck hn,EG (by omega)];simp only[bind_some];cases hv:nI o with
 |false=>
  have e1:(eqL zeroM.l.length 144&&fP 0 zeroM.l.length (List.replicate 144 false).length)=true:=by rw[mK];exact jm (fun _ _=>false) _
  simp only[Bool.false_and,cond_false,e1,cond_true,Bool.not_false]
 |true=>
  cases hc:RP o with
  |true=>
   have e1:(eqL zeroM.l.length 144&&fP 0 zeroM.l.length (List.replicate 144 false).length)=true:=(by rw[mK];exact jm (fun _ _=>false) _);simp only[Bool.true_and,Bool.not_true,cond_false,e1,cond_true,Bool.not_false,EH (show 200<=n by omega) hv,bind_some,MS (show 100<=n by omega),bH,aA]
  |false=>
   have e1:(eqL (fq (geO o)).l.length 144&&fP 0 (fq (geO o)).l.length (List.replicate 144 false).length)=true:=(by rw[mK];exact jm _ _);have e2:jZ (List.replicate 144 false) 0 (fq (geO o)).l=tb (geO o):=nZ _ xU;have hb:1<=o.values∧o.values<=12:=(by simp only[nI,and_eq_true,decide_eq_true_eq]at hv;exact⟨hv.1.1.1,hv.1.1.2⟩);obtain⟨m,hm⟩:∃ m:Nat,o.values=(m:Int):=⟨o.values.toNat,by omega⟩;have hz:eqL 0 ([]:List (List Bool)).length=true:=rfl;have key:iter (lg o (fq (geO o),true)) n ((0:Int),([]:List (List Bool)))=some (EK o):=by
    refine dJ (fun i=>((i:Int),(List.range i).map fun a=>(List.range m).map fun b=>geO o a b)) m _ (by simp) (fun i hi=>?_) ?_ n (by omega)
    ·have e:decide ((i:Int) < o.values)=true:=(by simp;omega);have hi12:i < 12:=(by omega);have hslok:uP 0 o.values 12=true:=BR (by omega) (by omega) (by omega);have hfit:fP (0+i*12) 12 (tb (geO o)).length=true:=(by simp only[fP,jL,decide_eq_true_eq];omega);have hmt:o.values.toNat=m:=(by omega);have hrl:((List.range m).map (geO o i)).length=m:=(by simp);have hs1:∀ r:List Bool,sub ([r]:List (List Bool)) 0 1=[r]:=fun _=>rfl;have hap:∀ k:Nat,k < 12->bG k k 1 1 24=true:=fun k hk=>cZ (by omega) (by simp only[maxLen];omega);simp only[lg,e,cond_true,sV,hi12,decide_true,e2,Int.toNat_natCast,hslok,hfit,hmt,afn (geO o) hi12 (show m<=12 by omega),hrl,aA,Bool.and_self,MU (l:=(List.range m).map (geO o i)) (by rw[hrl];omega),bind_some,bH,hs1,length_singleton,length_map,List.length_range,hap i hi12,fF,ay (show i < 9223372036854775807 by omega)];have e3:sub (List.map (geO o i) (List.range m)) 0 m=List.map (geO o i) (List.range m):=(by rw[Ro,List.take_of_length_le (by simp)]);simp[e3,List.range_succ]
    ·have e:decide ((m:Int) < o.values)=false:=(by simp;omega);simp only[lg,e,cond_false,aA,cond_true];simp only[EK,hm,Int.toNat_natCast]
   simp only[Bool.not_false,Bool.and_self,cond_true,e1,Bool.not_true,cond_false,hz,key,bind_some,bH,aA]
def okO (o:aV):Prop:=nI o=true∧RP o=false
noncomputable def EU (o:aV):Bool:=nI o&&!(RP o)
theorem aaD {o:aV} (h:EU o=true):xV o=(EK o,[],0):=by
 simp only[EU,and_eq_true,Bool.not_eq_true']at h;simp[xV,h.1,h.2]
theorem YP {o:aV} (h:EU o=false):(xV o).2.2≠0:=by
 unfold EU at h;unfold xV;cases hv:nI o with
 |false=>simp
 |true=>rw[hv]at h;simp only[Bool.true_and,Bool.not_eq_false']at h;rw[h];simp
abbrev Mx:=List (List (List Bool))
noncomputable def EL (os:List aV):Option Mx:=if os.length<=12∧os.all EU=true then some (os.map EK)else none
def agn:Option Mx->Mx×Bool
 |some M=>(M,true)
 |none=>([],false)
theorem afo {n:Nat} (hn:400<=n) (os:List aV):qw n os=some (agn (EL os)):=by
 unfold qw EL;by_cases hl:os.length<=12
 ·have e1:decide ((os.length:Int)>12)=false:=by simp;omega
  have hz:eqL 0 ([]:Mx).length=true:=rfl;have key:=kN (l:=os) (step:=lm n os) (fun i=>((i:Int),(os.take i).map EK)) (fun o=>!(EU o)) (os.map EK) (fun _=>(([]:Mx),false)) (fun i hi=>by
   have e:decide ((i:Int) < (os.length:Int))=true:=(by simpa using hi);have h1:((os.take i).map EK).length=i:=(by simp;omega);have hs1:∀ r:List (List Bool),sub ([r]:Mx) 0 1=[r]:=fun _=>rfl;have hap:bG i i 1 1 24=true:=cZ (by omega) (by simp only[maxLen];omega);simp only[lm,e,cond_true,cB hi,bind_some,K3 hn];cases hk:EU os[i]with
   |true=>
    simp only[aaD hk,bne_self_eq_false,cond_false,bH,aA,cond_true,h1,hs1,length_singleton,hap,fF,Bool.not_true,ay (show i < 9223372036854775807 by omega)];rw[take_succ_eq_append_getElem hi,map_append];rfl
   |false=>
    have:((xV os[i]).2.2 != 0)=true:=(by simpa using YP hk);simp only[this,cond_true,Bool.not_false,Option.map_some]) (by
   have e:decide ((os.length:Int) < (os.length:Int))=false:=(by simp);simp only[lm,e,cond_false,aA,cond_true,List.take_length]) n (by omega)
  simp only[List.take_zero,map_nil]at key;rw[show ((0:Nat):Int)=0 from rfl]at key;simp only[e1,cond_false,hz,cond_true,key];have hf:=HZ EU os;cases hx:kY (fun o=>!(EU o)) os with
  |some i=>rw[hx]at hf;simp only at hf;simp only[rO];rw[if_neg (by rw[<- hf];simp)];rfl
  |none=>rw[hx]at hf;simp only at hf;simp only[kM,bH,aA,cond_true];rw[if_pos ⟨hl,hf.symm⟩];rfl
 ·have e1:decide ((os.length:Int)>12)=true:=by simp;omega
  simp only[e1,cond_true];rw[if_neg (by omega)];rfl
def Ve (M:Mx) (v:List Int) (i:Nat):Bool:=match v[i]?,M[i]? with
 |some x,some R=>decide (0<=x)&&decide (x < (R.length:Int))
 |_,_=>false
def Cn (M:Mx) (v:List Int):Bool:=decide (v.length=M.length)&&(List.range M.length).all (Ve M v)
theorem Ob {n:Nat} (M:Mx) (v:List Int) (hn:M.length < n) (hm:M.length < 9223372036854775807):bR n M v=some (Cn M v):=by
 unfold bR Cn;by_cases hl:v.length=M.length
 ·have e1:((v.length:Int) != (M.length:Int))=false:=by simp;omega
  have key:=kN (l:=List.range M.length) (step:=dS M v) (fun i=>(i:Int)) (fun i=>!(Ve M v i)) () (fun _=>false) (fun i hi=>by
   rw[List.length_range]at hi;have hv:i < v.length:=(by omega);have e:decide ((i:Int) < (v.length:Int))=true:=(by simpa using hv);simp only[dS,e,cond_true,cB hv,cB hi,bind_some,List.getElem_range,Ve,List.getElem?_eq_getElem hv,List.getElem?_eq_getElem hi,ay (show i < 9223372036854775807 by omega)];by_cases h1:v[i] < 0
   ·have:decide (0<=v[i])=false:=(by simpa using h1);simp only[h1,this,decide_true,cond_true,bind_some,Bool.false_and,Bool.not_false,Option.map_some]
   ·have:decide (0<=v[i])=true:=(by simpa using h1);simp only[h1,this,decide_false,cond_false,bind_some,Bool.true_and];by_cases h2:v[i]>=(M[i].length:Int)
    ·have:decide (v[i] < (M[i].length:Int))=false:=(by simpa using h2);simp only[h2,this,decide_true,cond_true,Bool.not_false,Option.map_some]
    ·have:decide (v[i] < (M[i].length:Int))=true:=(by simp only[decide_eq_true_eq];omega);simp only[h2,this,decide_false,cond_false,Bool.not_true]) (by
   rw[List.length_range];have e:decide ((M.length:Int) < (v.length:Int))=false:=(by simp;omega);simp only[dS,e,cond_false]) n (by simpa using hn)
  rw[show ((0:Nat):Int)=0 from rfl]at key;simp only[e1,cond_false,key];simp only[hl,decide_true,Bool.true_and];have hf:=HZ (Ve M v) (List.range M.length);cases hx:kY (fun i=>!(Ve M v i)) (List.range M.length)with
  |some i=>rw[hx]at hf;simp only at hf;simp only[rO];rw[<- hf]
  |none=>rw[hx]at hf;simp only at hf;simp only[kM];rw[<- hf]
 ·have e1:((v.length:Int) != (M.length:Int))=true:=by simp;omega
  simp[e1,hl]
theorem YQ {V:Type} (k k':Int) (v:V):∀ l:List (Int×V),eH iEq k (qK iEq k' v l)=if k=k' then some v else eH iEq k l
 |[]=>by
  by_cases h:k=k'
  ·simp[eH,qK,iEq,h]
  ·have h':(k==k')=false:=(by simpa using h);simp[eH,qK,iEq,h,h']
 |p::r=>by
  have ih:=YQ k k' v r;by_cases h1:k'=p.1
  ·subst h1;by_cases h2:k=p.1
   ·simp[qK,eH,iEq,h2]
   ·have h2':(k==p.1)=false:=(by simpa using h2);simp[qK,eH,iEq,h2,h2']
  ·have h1':(k'==p.1)=false:=(by simpa using h1);by_cases h2:k=p.1
   ·have h3:¬ p.1=k':=fun h=>h1 h.symm;simp[qK,eH,iEq,h1',h2,h3]
   ·have h2':(k==p.1)=false:=(by simpa using h2);simp only[qK,iEq,h1',cond_false,eH,h2'];simpa only[iEq]using ih
def RU (l:List aI):List (Int×Bool):=l.foldl (fun m c=>qK iEq c.id true m) []
theorem aaE (k:Int) (l:List aI):(eH iEq k (RU l)).getD false=l.any fun c=>decide (k=c.id):=by
 have main:∀ (l:List aI) (m:List (Int×Bool)),(eH iEq k (l.foldl (fun m c=>qK iEq c.id true m) m)).getD false=((l.any fun c=>decide (k=c.id)) || (eH iEq k m).getD false):=by
  intro l
  induction l with
  |nil=>intro m;simp
  |cons c l ih=>
   intro m;rw[foldl_cons,ih,YQ,List.any_cons];by_cases h:k=c.id
   ·simp[h]
   ·rw[if_neg h];simp[h]
 have:=main l [];simpa[RU,eH]using this
def MV (M:Mx) (base:List aI) (i:Nat):Bool:=match base[i]? with
 |some c=>!((base.take i).any fun b=>decide (c.id=b.id))&&Cn M c.values
 |none=>false
def Vf (M:Mx) (base:List aI):Bool:=(List.range base.length).all (MV M base)
noncomputable def dR (os:List aV) (base:List aI):Mx×Bool:=match EL os with
 |some M=>if Vf M base=true then (M,decide (base.length<=2000))else ([],false)
 |none=>([],false)
theorem K4 {os:List aV} {M:Mx} (h:EL os=some M):M.length=os.length∧os.length<=12:=by
 unfold EL at h;split at h
 ·rename_i h1;injection h with h;subst h;simp[h1.1]
 ·cases h
theorem YR {n:Nat} (hn:400<=n) (os:List aV) (base:List aI) (hb:base.length < n) (hb2:base.length < 9223372036854775807):kK n os base=some (dR os base):=by
 unfold kK dR;rw[afo hn];simp only[bind_some];cases hr:EL os with
 |none=>
  simp only[agn];cases hbase:base with
  |nil=>
   have h1:iter (dV n [] (([]:Mx),false)) n ((0:Int),([]:List (Int×Bool)))=some (.inl ()):=by
    obtain⟨m,rfl⟩:∃ m,n=m+1:=⟨n - 1,by omega⟩;exact aU rfl
   rw[h1];rfl
  |cons c r=>
   have h1:iter (dV n (c::r) (([]:Mx),false)) n ((0:Int),([]:List (Int×Bool)))=some (.inr ([],false)):=by
    obtain⟨m,rfl⟩:∃ m,n=m+1:=⟨n - 1,by omega⟩;refine aU ?_;have e:decide ((0:Int) < (((c::r).length:Nat):Int))=true:=(by simp only[length_cons,decide_eq_true_eq];omega);simp only[dV,e,cond_true,ae9 (l:=c::r) (by simp),bind_some,Bool.not_false,Option.map_some]
   rw[h1];rfl
 |some M=>
  obtain⟨hM1,hM2⟩:=K4 hr;simp only[agn];have key:=kN (l:=List.range base.length) (step:=dV n base (M,true)) (fun i=>((i:Int),RU (base.take i))) (fun i=>!(MV M base i)) () (fun _=>(([]:Mx),false)) (fun i hi=>by
   rw[List.length_range]at hi;have e:decide ((i:Int) < (base.length:Int))=true:=(by simpa using hi);simp only[dV,e,cond_true,cB hi,bind_some,Bool.not_true,cond_false,aaE,List.getElem_range,MV,List.getElem?_eq_getElem hi,bH,aA,Ob (n:=n) M _ (by omega) (by omega),ay (show i < 9223372036854775807 by omega)];have e4:RU (base.take (i+1))=qK iEq base[i].id true (RU (base.take i)):=(by rw[take_succ_eq_append_getElem hi];simp only[RU,List.foldl_append,foldl_cons,List.foldl_nil]);rw[e4];cases (base.take i).any fun c=>decide (base[i].id=c.id)with
   |true=>simp only[cond_true,bind_some,Bool.not_true,Bool.false_and,Bool.not_false,Option.map_some]
   |false=>
    simp only[cond_false,bind_some,Bool.not_false,Bool.true_and];cases Cn M base[i].values<;>rfl) (by
   rw[List.length_range];have e:decide ((base.length:Int) < (base.length:Int))=false:=(by simp);simp only[dV,e,cond_false]) n (by simpa using hb)
  simp only[List.take_zero]at key;rw[show ((0:Nat):Int)=0 from rfl,show RU []=[]from rfl]at key;rw[key];have hf:=HZ (MV M base) (List.range base.length);have e5:decide ((base.length:Int)<=2000)=decide (base.length<=2000):=by simp only[decide_eq_decide];omega
  cases hx:kY (fun i=>!(MV M base i)) (List.range base.length)with
  |some i=>rw[hx]at hf;simp only at hf;simp only[rO];rw[if_neg (by unfold Vf;rw[<- hf];simp)]
  |none=>rw[hx]at hf;simp only at hf;simp only[kM,bH,aA,cond_true,e5];rw[if_pos (by unfold Vf;exact hf.symm)]
def SqM (M:Mx):Prop:=∀ R∈M,∀ r∈R,r.length=R.length
theorem abD {os:List aV} {M:Mx} (h:EL os=some M):SqM M:=by
 unfold EL at h;split at h
 ·injection h with h;subst h;intro R hR r hr;obtain⟨o,_,rfl⟩:=mem_map.1 hR;unfold EK at hr ⊢;obtain⟨a,_,rfl⟩:=mem_map.1 hr;simp
 ·cases h
def TG (M:Mx) (a b:List Int) (i:Nat):Bool:=match M[i]?,a[i]?,b[i]? with
 |some R,some x,some y=>((R[x.toNat]?).bind fun r=>r[y.toNat]?).getD false
 |_,_,_=>false
def Pw (M:Mx) (a b:List Int):List Int:=((List.range M.length).filter fun i=>!(TG M a b i)).map fun i:Nat=>(i:Int)
theorem aee {M:Mx} {v:List Int} (h:Cn M v=true) {i:Nat} (hi:i < M.length):∃ (x:Nat),v[i]? =some (x:Int)∧x < (M[i]'hi).length:=by
 simp only[Cn,and_eq_true,decide_eq_true_eq,all_eq_true,List.mem_range]at h;have h2:=h.2 i hi;have hv:i < v.length:=by omega
 simp only[Ve,List.getElem?_eq_getElem hv,List.getElem?_eq_getElem hi,and_eq_true,decide_eq_true_eq]at h2;exact⟨v[i].toNat,by rw[List.getElem?_eq_getElem hv];congr 1;omega,by omega⟩
theorem Vg {n:Nat} {M:Mx} (hq:SqM M) {a b:List Int} (ha:Cn M a=true) (hb:Cn M b=true) (hn:M.length < n) (hm:M.length<=12):dY n M a b=some (Pw M a b):=by
 unfold dY Pw;have key:=dJ (step:=eY M a b) (fun i=>((i:Int),((List.range i).filter fun i=>!(TG M a b i)).map fun i:Nat=>(i:Int))) (s:=((0:Int),([]:List Int))) M.length (((List.range M.length).filter fun i=>!(TG M a b i)).map fun i:Nat=>(i:Int)) (by simp) (fun i hi=>by
  have e:decide ((i:Int) < (M.length:Int))=true:=by simpa using hi
  obtain⟨x,hx1,hx2⟩:=aee ha hi;obtain⟨y,hy1,hy2⟩:=aee hb hi;have hr:(M[i][x]'hx2).length=M[i].length:=hq _ (getElem_mem hi) _ (getElem_mem hx2);have hle:TG M a b i=(M[i][x]'hx2)[y]'(by rw[hr];exact hy2):=by
   simp only[TG,List.getElem?_eq_getElem hi,hx1,hy1,Int.toNat_natCast,List.getElem?_eq_getElem hx2,bind_some];rw[List.getElem?_eq_getElem (by rw[hr];exact hy2)];rfl
  have hs1:sub ([(i:Int)]:List Int) 0 1=[(i:Int)]:=rfl;generalize hL:((List.range i).filter fun i=>!(TG M a b i)).map (fun i:Nat=>(i:Int))=L;have hlen:L.length<=i:=by
   rw[<- hL,length_map];exact Nat.le_trans (length_filter_le _ _) (by simp)
  have hap:bG L.length L.length 1 1 8=true:=cZ (by omega) (by simp only[maxLen];omega);have hN:((List.range (i+1)).filter fun i=>!(TG M a b i)).map (fun i:Nat=>(i:Int))=L++(if TG M a b i=true then []else [(i:Int)]):=by
   rw[List.range_succ,filter_append,map_append,hL];cases h:TG M a b i<;>simp[h]
  rw[hN];simp only[eY,e,cond_true,cB hi,bind_some,Wp,hx1,hy1,List.getElem?_eq_getElem hx2];rw[List.getElem?_eq_getElem (show y < (M[i][x]'hx2).length by rw[hr];exact hy2),<- hle];simp only[bind_some,ay (show i < 9223372036854775807 by omega)];cases TG M a b i with
  |true=>simp only[Bool.not_true,cond_false,aA,cond_true,bind_some,if_true,append_nil]
  |false=>simp only[Bool.not_false,cond_true,hs1,length_singleton,hap,fF,aA,bind_some];rfl) (by
  have e:decide ((M.length:Int) < (M.length:Int))=false:=by simp
  simp only[eY,e,cond_false,aA,cond_true]) n hn
 have hz:eqL 0 ([]:List Int).length=true:=rfl;simp only[hz,cond_true,key,bind_some,bH,aA]
def RX (M:Mx) (c:aI) (w:List Int):List Int:=bif c.grant then Pw M c.values w else Pw M w c.values
theorem YS {n:Nat} {M:Mx} (hq:SqM M) {c:aI} {w:List Int} (ha:Cn M c.values=true) (hb:Cn M w=true) (hn:M.length < n) (hm:M.length<=12):eZ n M c w=some (RX M c w):=by
 unfold eZ RX;cases c.grant with
 |true=>simp only[cond_true,Vg hq ha hb hn hm,bind_some,bH,aA]
 |false=>simp only[cond_false,Vg hq hb ha hn hm,bind_some,bH,aA,cond_true]
def mX (M:Mx) (w:List Int) (c:aI):Bool:=(RX M c w).isEmpty
theorem YT (M:Mx) (w:List Int) (c:aI):((((RX M c w).length:Nat):Int)==0)=mX M w c:=by
 unfold mX;cases RX M c w with
 |nil=>rfl
 |cons x l=>simp only[length_cons,List.isEmpty_cons];simp;omega
def TH (l:List aI):List (Bool×Bool):=l.foldl (fun m c=>qK bEq c.grant true m) []
theorem YU (k k' v:Bool):∀ l:List (Bool×Bool),eH bEq k (qK bEq k' v l)=if k=k' then some v else eH bEq k l
 |[]=>by cases k<;>cases k'<;>rfl
 |p::r=>by
  have ih:=YU k k' v r;obtain⟨p1,p2⟩:=p;by_cases h1:k'=p1
  ·subst h1;by_cases h2:k=k'
   ·simp[qK,eH,bEq,h2]
   ·have h2':(k==k')=false:=(by simpa using h2);simp[qK,eH,bEq,h2,h2']
  ·have h1':(k'==p1)=false:=(by simpa using h1);by_cases h2:k=p1
   ·have h3:¬ p1=k':=fun h=>h1 h.symm;simp[qK,eH,bEq,h1',h2,h3]
   ·have h2':(k==p1)=false:=(by simpa using h2);simp only[qK,bEq,h1',cond_false,eH,h2'];simpa only[bEq]using ih
theorem acM (k:Bool) (l:List aI):(eH bEq k (TH l)).getD false=l.any fun c=>decide (k=c.grant):=by
 have main:∀ (l:List aI) (m:List (Bool×Bool)),(eH bEq k (l.foldl (fun m c=>qK bEq c.grant true m) m)).getD false=((l.any fun c=>decide (k=c.grant)) || (eH bEq k m).getD false):=by
  intro l
  induction l with
  |nil=>intro m;simp
  |cons c l ih=>
   intro m;rw[foldl_cons,ih,YU,List.any_cons];by_cases h:k=c.grant
   ·simp[h]
   ·rw[if_neg h];simp[h]
 have:=main l [];simpa[TH,eH]using this
def byG (M:Mx) (base:List aI) (w:List Int) (g:Bool):Bool:=base.any fun c=>mX M w c&&decide (g=c.grant)
def Vh (M:Mx) (base:List aI) (w:List Int):Int:=bif byG M base w true&&byG M base w false then 3 else bif byG M base w true then 1 else bif byG M base w false then 2 else 0
def qy (M:Mx) (base:List aI) (w:List Int) (i:Nat):Bool:=match base[i]? with
 |some c=>mX M w c
 |none=>false
def Co (M:Mx) (base:List aI) (w:List Int):List Int:=((List.range base.length).filter (qy M base w)).map fun i:Nat=>(i:Int)
theorem Oz (M:Mx) (base:List aI) (w:List Int) (g:Bool):((base.filter (mX M w)).any fun c=>decide (g=c.grant))=byG M base w g:=by rw[List.any_filter];rfl
theorem acN {n:Nat} {M:Mx} (hq:SqM M) {base:List aI} {w:List Int} (hv:∀ c∈base,Cn M c.values=true) (hw:Cn M w=true) (hn:M.length < n) (hm:M.length<=12) (hb:base.length < n) (hb2:base.length<=2000):
 gK n M base w=some (Vh M base w,Co M base w):=by
 unfold gK;have key:=dJ (step:=fe n M base w) (fun i=>((i:Int),TH ((base.take i).filter (mX M w)),((List.range i).filter (qy M base w)).map fun i:Nat=>(i:Int))) (s:=((0:Int),([]:List (Bool×Bool)),([]:List Int))) base.length (TH (base.filter (mX M w)),Co M base w) (by simp[TH]) (fun i hi=>by
  have e:decide ((i:Int) < (base.length:Int))=true:=by simpa using hi
  have hs1:sub ([(i:Int)]:List Int) 0 1=[(i:Int)]:=rfl;have hra:qy M base w i=mX M w base[i]:=by simp[qy,hi]
  generalize hL:((List.range i).filter (qy M base w)).map (fun i:Nat=>(i:Int))=L;have hlen:L.length<=i:=by
   rw[<- hL,length_map];exact Nat.le_trans (length_filter_le _ _) (by simp)
  have hap:bG L.length L.length 1 1 8=true:=cZ (by omega) (by simp only[maxLen];omega);have hN:((List.range (i+1)).filter (qy M base w)).map (fun i:Nat=>(i:Int))=L++(if mX M w base[i]=true then [(i:Int)]else []):=by
   rw[List.range_succ,filter_append,map_append,hL,<- hra];cases h:qy M base w i<;>simp[h]
  have hB:TH ((base.take (i+1)).filter (mX M w))=bif mX M w base[i]then qK bEq base[i].grant true (TH ((base.take i).filter (mX M w)))else TH ((base.take i).filter (mX M w)):=by
   rw[take_succ_eq_append_getElem hi,filter_append];cases h:mX M w base[i]with
   |true=>simp only[TH,List.filter_cons,h,if_true,List.filter_nil,List.foldl_append,foldl_cons,List.foldl_nil,cond_true]
   |false=>simp only[TH,List.filter_cons,h,List.filter_nil,append_nil,cond_false,Bool.false_eq_true,if_false]
  rw[hN,hB];simp only[fe,e,cond_true,cB hi,bind_some,YS hq (hv _ (getElem_mem hi)) hw hn hm,YT,ay (show i < 9223372036854775807 by omega)];cases mX M w base[i]with
  |true=>simp only[cond_true,hs1,length_singleton,hap,fF,aA,bind_some,if_true]
  |false=>simp only[cond_false,aA,cond_true,bind_some,Bool.false_eq_true,if_false,append_nil]) (by
  have e:decide ((base.length:Int) < (base.length:Int))=false:=by simp
  simp only[fe,e,cond_false,aA,cond_true,List.take_length];rfl) n hb
 have hz:eqL 0 ([]:List Int).length=true:=rfl;simp only[hz,cond_true,key,bind_some,acM,Oz];unfold Vh;cases h1:byG M base w true with
 |true=>
  cases h2:byG M base w false with
  |true=>simp only[cond_true,bind_some,bH,aA,Bool.and_self]
  |false=>simp only[cond_true,bind_some,cond_false,bH,aA,Bool.and_false]
 |false=>
  cases h2:byG M base w false with
  |true=>simp only[cond_true,bind_some,cond_false,bH,aA,Bool.false_and]
  |false=>
   simp only[cond_false,bind_some,Bool.false_and];have:Co M base w=[]:=by
    unfold Co;have:(List.range base.length).filter (qy M base w)=[]:=by
     rw[List.filter_eq_nil_iff];intro i hi hr;rw[List.mem_range]at hi;simp only[qy,List.getElem?_eq_getElem hi]at hr;cases hg:base[i].grant with
     |true=>
      have:byG M base w true=true:=(by unfold byG;rw[any_eq_true];exact⟨_,getElem_mem hi,by simp[hr,hg]⟩);rw[h1]at this;cases this
     |false=>
      have:byG M base w false=true:=(by unfold byG;rw[any_eq_true];exact⟨_,getElem_mem hi,by simp[hr,hg]⟩);rw[h2]at this;cases this
    rw[this];rfl
   rw[this]
theorem YV {M:Mx} {base:List aI} (h:Vf M base=true):∀ c∈base,Cn M c.values=true:=by
 intro c hc;obtain⟨i,hi,rfl⟩:=List.mem_iff_getElem.1 hc;simp only[Vf,all_eq_true,List.mem_range]at h;have:=h i hi;simp only[MV,List.getElem?_eq_getElem hi,and_eq_true]at this;exact this.2
theorem Js {os:List aV} {base:List aI} (h:(dR os base).2=true):∃ M,dR os base=(M,true)∧EL os=some M∧Vf M base=true∧base.length<=2000:=by
 unfold dR at h ⊢;cases hr:EL os with
 |none=>rw[hr]at h;cases h
 |some M=>
  rw[hr]at h;simp only at h ⊢;split at h
  ·rename_i h1;rw[if_pos h1];simp only at h;exact⟨M,by rw[h],rfl,h1,of_decide_eq_true h⟩
  ·cases h
noncomputable def bq (os:List aV) (base:List aI) (w:List Int):Int×List Int×Int:=
 bif (dR os base).2&&Cn (dR os base).1 w then (Vh (dR os base).1 base w,Co (dR os base).1 base w,0)else (0,[],1)
theorem abE {n:Nat} (hn:400<=n) {os:List aV} {base:List aI} {w:List Int} (r:Mx×Bool) (hr:r=dR os base):
 ((bif (!r.2)then some true else bif eqL (sub r.1 0 r.1.length).length r.1.length then (bR n (sub r.1 0 r.1.length) w).bind fun r2=>some (!r2)else none):Option Bool)=some (!((dR os base).2&&Cn (dR os base).1 w)):=by
 subst hr;cases h:(dR os base).2 with
 |false=>simp
 |true=>
  obtain⟨M,h1,h2,h3,h4⟩:=Js h;rw[h1];have:=K4 h2;simp only[Bool.not_true,cond_false,bH,aA,cond_true,Ob (n:=n) M w (by omega) (by omega),bind_some,Bool.true_and]
theorem Vi {n:Nat} (hn:400<=n) (os:List aV) (base:List aI) (w:List Int) (hb:base.length < n) (hb2:base.length < 9223372036854775807):jQ n os base w=some (bq os base w):=by
 unfold jQ bq;rw[YR hn os base hb hb2];simp only[bind_some];rw[abE hn _ rfl];simp only[bind_some];cases h:(dR os base).2&&Cn (dR os base).1 w with
 |false=>simp
 |true=>
  simp only[and_eq_true]at h;obtain⟨M,h1,h2,h3,h4⟩:=Js h.1;rw[h1]at h ⊢;have:=K4 h2;simp only[Bool.not_true,cond_false,bH,aA,cond_true,acN (abD h2) (YV h3) h.2 (n:=n) (by omega) (by omega) hb h4,bind_some]
end Go.Proofs
