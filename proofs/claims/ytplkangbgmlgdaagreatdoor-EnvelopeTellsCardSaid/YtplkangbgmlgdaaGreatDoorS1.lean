/-
  What the printed functions of package slices and cmp come to.
-/
import Derived.Test.YtplkangbgmlgdaaGreatDoorTD2
open Go.IntKind (i64)
open List (length_take mem_map all_eq_true getElem_mem cons_append length_map mem_iff_getElem append_nil length_drop length_nil foldl_cons mem_filter any_eq_true mem_cons_self length_singleton pairwise_cons drop_eq_getElem_cons length_filter_le mem_flatMap pairwise_append getElem_drop)
namespace Go.Proofs
open Go.Gb Go.RowKit
abbrev ltI (a b:Int):Bool:=decide (a < b)
theorem Rm (a b:Int):cmp_Less_int a b=some (ltI a b):=by simp[cmp_Less_int,cmp_isNaN_int]
theorem jM (a b:Int):cmp_Compare_int a b=some (if a < b then -1 else if b < a then 1 else 0):=by
 by_cases h1:a < b
 ·simp[cmp_Compare_int,cmp_isNaN_int,h1]
 ·by_cases h2:b < a
  ·simp[cmp_Compare_int,cmp_isNaN_int,h1,h2]
  ·simp[cmp_Compare_int,cmp_isNaN_int,h1,h2]
theorem Wq {x:Nat} (k:Nat) (h:2 ^ k<=x):Go.Sort.bitsLen x=Go.Sort.bitsLen (x/2 ^ k)+k:=by
 have key:∀ m,Go.Sort.bitsLen x<=m+k↔Go.Sort.bitsLen (x/2 ^ k)<=m:=by
  intro m;rw[Go.Sort.bitsLen_le_iff,Go.Sort.bitsLen_le_iff,Nat.pow_add,Nat.div_lt_iff_lt_mul (Nat.two_pow_pos k)]
 have h1:=(key (Go.Sort.bitsLen (x/2 ^ k))).2 (aU _);have hk:k<=Go.Sort.bitsLen x:=by
  rcases Nat.lt_or_ge (Go.Sort.bitsLen x) k with hlt |hge
  ·have:=(Go.Sort.bitsLen_le_iff x (Go.Sort.bitsLen x)).1 (aU _);have h2:2 ^ Go.Sort.bitsLen x<=2 ^ k:=Nat.pow_le_pow_right (by omega) (by omega);omega
  ·exact hge
 have h2:=(key (Go.Sort.bitsLen x - k)).1 (by omega);omega
theorem akz {v:Nat} (h:v < 256):IntKind.u8.wrap ((v:Nat):Int)=(v:Int):=by
 simp only[IntKind.wrap,IntKind.bits,IntKind.signed,Bool.false_and,Bool.false_eq_true,if_false];omega
set_option maxRecDepth 100000 in
theorem BB {x:Nat} (hx:x < 1152921504606846976):bits_Len (x:Int)=some ((Go.Sort.bitsLen x:Nat):Int):=by
 unfold bits_Len bits_Len64;have tab:∀ v:Fin 256,XE (⟨#[0,1,2,2,3,3,3,3,4,4,4,4,4,4,4,4,5,5,5,5,5,5,5,5,5,5,5,5,5,5,5,5,6,6,6,6,6,6,6,6,6,6,6,6,6,6,6,6,6,6,6,6,6,6,6,6,6,6,6,6,6,6,6,6,7,7,7,7,7,7,7,7,7,7,7,7,7,7,7,7,7,7,7,7,7,7,7,7,7,7,7,7,7,7,7,7,7,7,7,7,7,7,7,7,7,7,7,7,7,7,7,7,7,7,7,7,7,7,7,7,7,7,7,7,7,7,7,7,8,8,8,8,8,8,8,8,8,8,8,8,8,8,8,8,8,8,8,8,8,8,8,8,8,8,8,8,8,8,8,8,8,8,8,8,8,8,8,8,8,8,8,8,8,8,8,8,8,8,8,8,8,8,8,8,8,8,8,8,8,8,8,8,8,8,8,8,8,8,8,8,8,8,8,8,8,8,8,8,8,8,8,8,8,8,8,8,8,8,8,8,8,8,8,8,8,8,8,8,8,8,8,8,8,8,8,8,8,8,8,8,8,8,8,8,8,8,8,8,8,8,8,8,8,8,8,8]⟩) ((v.val:Nat):Int)=some ((Go.Sort.bitsLen v.val:Nat):Int):=by decide +kernel
 have k32:(decide (0<=32)&&decide (32<=IntKind.u64.bits))=true:=rfl;have k16:(decide (0<=16)&&decide (16<=IntKind.u64.bits))=true:=rfl;have k8:(decide (0<=8)&&decide (8<=IntKind.u64.bits))=true:=rfl;have step:∀ (x k s:Nat),∃ y t:Nat,((bif (decide ((x:Int)>=((2 ^ k:Nat):Int)))then some (((x/2 ^ k:Nat):Int),((s+k:Nat):Int))else some ((x:Int),(s:Int))):Option (Int×Int))=some ((y:Int),(t:Int))∧Go.Sort.bitsLen x+s=Go.Sort.bitsLen y+t∧(y < 2 ^ k∨y=x/2 ^ k)∧t<=s+k:=by
  intro x k s;by_cases h:2 ^ k<=x
  ·have c:decide ((x:Int)>=((2 ^ k:Nat):Int))=true:=(by rw[aM];omega);refine⟨x/2 ^ k,s+k,by rw[c];rfl,?_,.inr rfl,aU _⟩;have:=Wq k h;omega
  ·have c:decide ((x:Int)>=((2 ^ k:Nat):Int))=false:=(by rw[bU];omega);exact⟨x,s,by rw[c];rfl,rfl,.inl (by omega),by omega⟩
 have sh:∀ (v k:Nat),((v:Int)/2 ^ ((k:Nat):Int).toNat)=((v/2 ^ k:Nat):Int):=by
  intro v k;rw[Int.toNat_natCast]
  push_cast
  rfl
 obtain⟨y1,t1,e1,b1,c1,d1⟩:=step x 32 0;obtain⟨y2,t2,e2,b2,c2,d2⟩:=step y1 16 t1;obtain⟨y3,t3,e3,b3,c3,d3⟩:=step y2 8 t2;have s1:((bif (decide ((x:Int)>=(4294967296:Int)))then bif ((decide (0<=32)&&decide (32<=IntKind.u64.bits)))then some (((x:Int)/2 ^ (32:Int).toNat),(32:Int))else none else some ((x:Int),(0:Int))):Option (Int×Int))=some ((y1:Int),(t1:Int)):=by
  rw[k32,<- e1];rw[show ((x:Int)/2 ^ (32:Int).toNat)=((x/2 ^ 32:Nat):Int)from sh x 32];rfl
 have s2:((bif (decide ((y1:Int)>=(65536:Int)))then bif ((decide (0<=16)&&decide (16<=IntKind.u64.bits)))then some (((y1:Int)/2 ^ (16:Int).toNat),(i64.wrap ((t1:Int)+16)))else none else some ((y1:Int),(t1:Int))):Option (Int×Int))=some ((y2:Int),(t2:Int)):=by
  rw[k16,<- e2];rw[show ((y1:Int)/2 ^ (16:Int).toNat)=((y1/2 ^ 16:Nat):Int)from sh y1 16,show i64.wrap ((t1:Int)+16)=((t1+16:Nat):Int)from OL (j:=16) (by omega)];rfl
 have s3:((bif (decide ((y2:Int)>=(256:Int)))then bif ((decide (0<=8)&&decide (8<=IntKind.u64.bits)))then some (((y2:Int)/2 ^ (8:Int).toNat),(i64.wrap ((t2:Int)+8)))else none else some ((y2:Int),(t2:Int))):Option (Int×Int))=some ((y3:Int),(t3:Int)):=by
  rw[k8,<- e3];rw[show ((y2:Int)/2 ^ (8:Int).toNat)=((y2/2 ^ 8:Nat):Int)from sh y2 8,show i64.wrap ((t2:Int)+8)=((t2+8:Nat):Int)from OL (j:=8) (by omega)];rfl
 have hy:y3 < 256:=by
  have q1:(2:Nat) ^ 32=4294967296:=rfl;have q2:(2:Nat) ^ 16=65536:=rfl;have q3:(2:Nat) ^ 8=256:=rfl;rw[q1]at c1;rw[q2]at c2;rw[q3]at c3;omega
 simp only[s1,ah,s2,s3];rw[akz hy,show XE _ ((y3:Nat):Int)=_ from tab ⟨y3,hy⟩];have hb:Go.Sort.bitsLen y3<=8:=(Go.Sort.bitsLen_le_iff _ _).2 (by simpa using hy);simp only[ah];rw[oG (by omega),OL (by omega)];congr 2;omega
theorem aiy:X6 bO:=by
 intro L h8 hL;have hb:Go.Sort.bitsLen L<=60:=(Go.Sort.bitsLen_le_iff _ _).2 (by omega);have hp:2 ^ Go.Sort.bitsLen L<=2 ^ 60:=Nat.pow_le_pow_right (by omega) hb;unfold bO;rw[oV (by omega),BB hL,ah];have c:(decide ((0:Int)<=((Go.Sort.bitsLen L:Nat):Int))&&decide (((Go.Sort.bitsLen L:Nat):Int)<=((IntKind.u64.bits:Nat):Int)))=true:=by
  have:((IntKind.u64.bits:Nat):Int)=64:=rfl;rw[this,aK,aM,aM];omega
 rw[c,au,Int.toNat_natCast,Int.one_mul,show ((2:Int) ^ Go.Sort.bitsLen L)=((2 ^ Go.Sort.bitsLen L:Nat):Int)by push_cast;rfl,oV (by omega)]
theorem aiz:Ut bT:=by
 intro r hr;have c13:(decide (0<=13)&&decide (13<=IntKind.u64.bits))=true:=rfl;have c7:(decide (0<=7)&&decide (7<=IntKind.u64.bits))=true:=rfl;have c17:(decide (0<=17)&&decide (17<=IntKind.u64.bits))=true:=rfl;have sl:∀ (v k:Nat),IntKind.u64.wrap ((v:Int)*2 ^ ((k:Nat):Int).toNat)=((v*2 ^ k%18446744073709551616:Nat):Int):=by
  intro v k;rw[Int.toNat_natCast,show ((v:Int)*2 ^ k)=((v*2 ^ k:Nat):Int)by push_cast;rfl];simp only[IntKind.wrap,IntKind.bits,IntKind.signed,Bool.false_and,Bool.false_eq_true,if_false];omega
 have sr:∀ (v k:Nat),((v:Int)/2 ^ ((k:Nat):Int).toNat)=((v/2 ^ k:Nat):Int):=by
  intro v k;rw[Int.toNat_natCast];push_cast;rfl
 have ha:r ^^^ (r*2 ^ 13%18446744073709551616) < 18446744073709551616:=Nat.xor_lt_two_pow (n:=64) (by omega) (by omega);have hb:(r ^^^ (r*2 ^ 13%18446744073709551616)) ^^^ ((r ^^^ (r*2 ^ 13%18446744073709551616))/2 ^ 7) < 18446744073709551616:=Nat.xor_lt_two_pow (n:=64) (by omega) (by omega);unfold bT;rw[c13,c7,c17];simp only[au];rw[show IntKind.u64.wrap ((r:Int)*2 ^ (13:Int).toNat)=((r*2 ^ 13%18446744073709551616:Nat):Int)from sl r 13,Us hr (by omega)];rw[show (((r ^^^ (r*2 ^ 13%18446744073709551616):Nat):Int)/2 ^ (7:Int).toNat)=_ from sr _ 7,Us ha (by omega)];rw[show IntKind.u64.wrap (((((r ^^^ (r*2 ^ 13%18446744073709551616)) ^^^ ((r ^^^ (r*2 ^ 13%18446744073709551616))/2 ^ 7):Nat)):Int)*2 ^ (17:Int).toNat)=_ from sl _ 17,Us hb (by omega)];rfl
theorem MQ:Go.Sort.SWO ltI where
 irrefl x:=by simp[ltI]
 trans x y z h1 h2:=by simp only[ltI,aM]at *;omega
 ntrans x y z h1 h2:=by simp only[ltI,bU]at *;omega
theorem Yc:∀ {l m:List Int},l.Perm m->l.Pairwise (fun x y=>ltI y x=false)->m.Pairwise (fun x y=>ltI y x=false)->l=m
 |[],m,h,_,_=>(List.nil_perm.1 h).symm
 |x::l,[],h,_,_=>by have:=h.length_eq;simp at this
 |x::l,y::m,h,h1,h2=>by
  have e:x=y:=by
   rw[pairwise_cons]at h1 h2;have m1:x∈y::m:=h.mem_iff.1 mem_cons_self;have m2:y∈x::l:=h.mem_iff.2 mem_cons_self;rcases aI.1 m1 with e |m1
   ·exact e
   ·rcases aI.1 m2 with e |m2
    ·exact e.symm
    ·have a:=h1.1 y m2;have b:=h2.1 x m1;simp only[ltI,bU]at a b;omega
  subst e;rw[pairwise_cons]at h1 h2;rw[Yc (List.Perm.cons_inv h) h1.2 h2.2]
theorem Hq {α:Type} (lt:α->α->Bool) (x:α):∀ ys:List α,(iG lt x ys).Perm (x::ys)
 |[]=>List.Perm.refl _
 |y::ys=>by
  simp only[iG];cases lt x y with
  |true=>exact ((Hq lt x ys).cons y).trans (List.Perm.swap x y ys)
  |false=>exact List.Perm.refl _
theorem E8 {α:Type} (lt:α->α->Bool) (l:List α):(gK lt l).Perm l:=by
 have gen:∀ (xs rs:List α),(xs.foldl (fun rs x=>iG lt x rs) rs).Perm (xs++rs):=by
  intro xs
  induction xs with
  |nil=>intro rs;exact List.Perm.refl _
  |cons x xs ih=>
   intro rs;refine (ih _).trans ?_;refine ((Hq lt x rs).append_left xs).trans ?_;exact List.perm_middle
 unfold gK;exact (List.reverse_perm _).trans (by simpa using gen l [])
theorem insRev_sorted {α:Type} {lt:α->α->Bool} (hS:Go.Sort.SWO lt) (x:α):∀ ys:List α,ys.Pairwise (fun a b=>lt a b=false)->(iG lt x ys).Pairwise fun a b=>lt a b=false
 |[],_=>by simp[iG]
 |y::ys,h=>by
  have h':=pairwise_cons.1 h;simp only[iG];cases hxy:lt x y with
  |true=>
   rw[au,pairwise_cons];refine⟨fun z hz=>?_,insRev_sorted hS x ys h'.2⟩;rcases aI.1 ((Hq lt x ys).mem_iff.1 hz)with rfl |hz
   ·cases hyx:lt y z with
    |false=>rfl
    |true=>have:=hS.trans _ _ _ hxy hyx;rw[hS.irrefl]at this;cases this
   ·exact h'.1 z hz
  |false=>
   rw[aA,pairwise_cons];refine⟨fun z hz=>?_,h⟩;rcases aI.1 hz with rfl |hz
   ·exact hxy
   ·exact hS.ntrans _ _ _ hxy (h'.1 z hz)
theorem isort_sorted {α:Type} {lt:α->α->Bool} (hS:Go.Sort.SWO lt) (l:List α):(gK lt l).Pairwise fun x y=>lt y x=false:=by
 have gen:∀ (xs rs:List α),rs.Pairwise (fun a b=>lt a b=false)->(xs.foldl (fun rs x=>iG lt x rs) rs).Pairwise fun a b=>lt a b=false:=by
  intro xs
  induction xs with
  |nil=>intro rs h;exact h
  |cons x xs ih=>intro rs h;exact ih _ (insRev_sorted hS x rs h)
 unfold gK;rw[List.pairwise_reverse];exact gen l [] List.Pairwise.nil
theorem ahc (l:List Int):zI ltI l=gK ltI l:=
 Yc ((EJ MQ l).trans (E8 ltI l).symm) (EK MQ l) (isort_sorted MQ l)
theorem ab2 (n:Nat):∀ m,gU n m=iQ cmp_Less_int (fun r=>r) bO bT n m
 | 0=>rfl
 |m+1=>by
  show lu n (gU n m)=jI cmp_Less_int (fun r=>r) bO bT n (iQ cmp_Less_int (fun r=>r) bO bT n m);rw[ab2 n m];generalize iQ cmp_Less_int (fun r=>r) bO bT n m=rc
  kernel_rfl
theorem oJ {n:Nat} {l:List Int} (hl:l.length < 1099511627776) (hn:l.length < n):l9 n l=some (gK ltI l):=by
 unfold l9 nP;rw[oV (by omega),BB (by omega),ab2];simp only[ah,aC,au];rw[zJ (lt:=ltI) MQ (f:=ltI) (q:=fun r=>r) Rm (fun _ _=>rfl) aiy aiz (by omega) hn hn,ahc];rfl
theorem nV {n:Nat} {l:List Int} (hl:l.length < 1099511627776) (hn:l.length < n):lD n l=some ((),fM l):=by
 rw[<- ab0];exact Wo (eq:=fun x y=>x==y) (ne:=fun x y=>x != y) (fun x y=>by simp[bne]) hl hn
theorem Dv {l:List aj} (h:l.length < 1099511627776):vR l=some l:=QI (b:=32) (by omega) (by simp only[maxLen];omega)
theorem MR {n:Nat} {l:List (List aj)} (hf:l.flatten.length < 1099511627776) (hl:l.length < 1099511627776) (hn:l.length < n):zK n l=some l.flatten:=Zr (aj.mk 0 0 0 0) (b:=32) hf (by omega) hl hn
theorem Dw {n:Nat} {a b:List aj} (hl:a.length < 1099511627776) (hn:a.length < n):nG n a b=some (decide (a=b)):=by
 have e:nG n a b=Md n (fun x1 x2:aj=>!((x1.x0==(x2.x0:Int))&&((x1.y0==(x2.y0:Int))&&((x1.x1==(x2.x1:Int))&&((x1.y1==(x2.y1:Int))&&true))))) a b:=by kernel_rfl
 rw[e];refine GR (fun x y=>?_) hl hn;obtain⟨a,b,c,d⟩:=x;obtain⟨e,f,g,h⟩:=y;simp only[aj.mk.injEq,Bool.and_true];rw[bJ];simp
theorem Dx {n:Nat} {a b:List aL} (hl:a.length < 1099511627776) (hn:a.length < n):vS n a b=some (decide (a=b)):=by
 have e:vS n a b=Md n (fun x1 x2:aL=>!((x1.from_==(x2.from_:Int))&&((x1.to==(x2.to:Int))&&true))) a b:=by kernel_rfl
 rw[e];refine GR (fun x y=>?_) hl hn;obtain⟨a,b⟩:=x;obtain⟨c,d⟩:=y;simp only[aL.mk.injEq,Bool.and_true];rw[bJ];simp
abbrev ltS (a b:aL):Bool:=decide (a.from_ < b.from_)
theorem MS:Go.Sort.SWO ltS where
 irrefl x:=by simp[ltS]
 trans x y z h1 h2:=by simp only[ltS,aM]at *;omega
 ntrans x y z h1 h2:=by simp only[ltS,bU]at *;omega
instance:Inhabited aL:=⟨⟨0,0⟩⟩
theorem ahd (n:Nat) (rc:List aL->Int->Int->Int->((aL×aL×Unit)->Option Int)->Option (List aL)) (φ:(aL×aL×Unit)->Option Int) (l:List aL) (a b d:Int):iU n rc l a b d φ=jI (fun x y=>φ (x,y,())) (fun r=>decide (r < 0)) bO bT n (fun l a b d=>rc l a b d φ) l a b d:=by kernel_rfl
theorem Yd (n:Nat) (φ:(aL×aL×Unit)->Option Int):∀ m l a b d,eH n m l a b d φ=iQ (fun x y=>φ (x,y,())) (fun r=>decide (r < 0)) bO bT n m l a b d
 | 0,l,a,b,d=>rfl
 |m+1,l,a,b,d=>by
  have e:(fun l a b d=>eH n m l a b d φ)=iQ (fun x y=>φ (x,y,())) (fun r=>decide (r < 0)) bO bT n m:=by
   funext l a b d;exact Yd n φ m l a b d
  show iU n (eH n m) l a b d φ=jI (fun x y=>φ (x,y,())) (fun r=>decide (r < 0)) bO bT n (iQ (fun x y=>φ (x,y,())) (fun r=>decide (r < 0)) bO bT n m) l a b d;rw[<- e];exact ahd n (eH n m) φ l a b d
theorem JH {n:Nat} {l:List aL} {φ:(aL×aL×Unit)->Option Int} (f:aL->aL->Int) (hφ:∀ x y,φ (x,y,())=some (f x y)) (hf:∀ x y,decide (f x y < 0)=ltS x y) (hl:l.length < 1099511627776) (hn:l.length < n):oW n l φ=some (zI ltS l):=by
 unfold oW mJ;rw[oV (by omega),BB (by omega)];simp only[ah,aC,au,Yd];rw[zJ (lt:=ltS) MS (f:=f) (q:=fun r=>decide (r < 0)) hφ hf aiy aiz (by omega) hn hn];rfl
def mrg (out:List aL) (s:aL):List aL:=
 match out.getLast? with
 |some q=>bif decide (s.from_<=q.to)then out.dropLast++[⟨q.from_,max q.to s.to⟩]else out++[s]
 |none=>[s]
theorem KJ (out:List aL) (s:aL):(mrg out s).length<=out.length+1:=by
 unfold mrg;cases out.getLast? with
 |none=>simp
 |some q=>simp only;cases decide (s.from_<=q.to)<;>simp<;>omega
theorem aeI (o:List aL) (q s:aL):mrg (o++[q]) s=bif decide (s.from_<=q.to)then o++[⟨q.from_,max q.to s.to⟩]else o++[q]++[s]:=by simp[mrg]
abbrev OkS (s:aL):Prop:=s.from_ < s.to
def inS (l:List aL) (y:Int):Bool:=l.any fun s=>decide (s.from_<=y)&&decide (y < s.to)
def Can (l:List aL):Prop:=l.Pairwise (fun a b=>a.to < b.from_)∧∀ s∈l,OkS s
theorem jS (l:List aL) (y:Int):inS l y=true↔∃ s∈l,s.from_<=y∧y < s.to:=by simp[inS]
theorem oK (l m:List aL) (y:Int):inS (l++m) y=(inS l y || inS m y):=by simp[inS]
theorem wC (y:Int):inS [] y=false:=rfl
theorem kE (s:aL) (l:List aL) (y:Int):inS (s::l) y=((decide (s.from_<=y)&&decide (y < s.to)) || inS l y):=by simp[inS]
theorem UC {l m:List aL} (h:l.Perm m) (y:Int):inS l y=inS m y:=by
 rw[bJ,jS,jS];exact⟨fun ⟨s,hs,h1⟩=>⟨s,h.mem_iff.1 hs,h1⟩,fun⟨s,hs,h1⟩=>⟨s,h.mem_iff.2 hs,h1⟩⟩
theorem tX:Can []:=⟨List.Pairwise.nil,by simp⟩
theorem aiA {out:List aL} {s:aL} (hc:Can out) (hs:OkS s) (hb:∀ o∈out,o.from_<=s.from_):
 Can (mrg out s)∧(∀ o∈mrg out s,o.from_<=s.from_)∧∀ y,inS (mrg out s) y=(inS out y || inS [s] y):=by
 rcases List.eq_nil_or_concat out with rfl |⟨o,q,rfl⟩
 ·refine⟨⟨by simp[mrg],by simp[mrg];exact hs⟩,by simp[mrg],fun y=>by simp[mrg,inS]⟩
 ·rw[List.concat_eq_append]at*;obtain⟨h1,h2⟩:=hc;rw[pairwise_append]at h1;obtain⟨p1,_,p3⟩:=h1;have hq:OkS q:=h2 q (by simp);have hqs:q.from_<=s.from_:=hb q (by simp);rw[aeI];by_cases hj:s.from_<=q.to
  ·simp only[hj,decide_true,au];refine⟨⟨?_,?_⟩,?_,?_⟩
   ·rw[pairwise_append];refine⟨p1,by simp,fun a ha b hb'=>?_⟩;rw[aO]at hb';subst hb';exact p3 a ha q (by simp)
   ·intro a ha;rcases aX.1 ha with ha |ha
    ·exact h2 a (by simp[ha])
    ·rw[aO]at ha;subst ha;show q.from_ < max q.to s.to;have:q.from_ < q.to:=hq;omega
   ·intro a ha;rcases aX.1 ha with ha |ha
    ·exact hb a (by simp[ha])
    ·rw[aO]at ha;subst ha;exact hqs
   ·intro y;rw[oK,oK,Bool.or_assoc];congr 1;simp only[kE,wC,Bool.or_false];rw[bJ];simp only[aK,Bool.or_eq_true,aM];have:q.from_ < q.to:=hq;have:s.from_ < s.to:=hs;omega
  ·simp only[hj,decide_false,aA];refine⟨⟨?_,?_⟩,?_,?_⟩
   ·rw[pairwise_append];refine⟨?_,by simp,fun a ha b hb'=>?_⟩
    ·rw[pairwise_append];exact⟨p1,by simp,p3⟩
    ·rw[aO]at hb';subst hb';rcases aX.1 ha with ha |ha
     ·have:=p3 a ha q (by simp);have:q.from_ < q.to:=hq;omega
     ·rw[aO]at ha;subst ha;omega
   ·intro a ha;rcases aX.1 ha with ha |ha
    ·exact h2 a ha
    ·rw[aO]at ha;subst ha;exact hs
   ·intro a ha;rcases aX.1 ha with ha |ha
    ·exact hb a ha
    ·rw[aO]at ha;subst ha;exact Int.le_refl _
   ·intro y;rw[oK]
theorem OU:∀ (l out:List aL),Can out->(∀ s∈l,OkS s)->l.Pairwise (fun x y=>x.from_<=y.from_)->(∀ o∈out,∀ s∈l,o.from_<=s.from_)->Can (l.foldl mrg out)∧∀ y,inS (l.foldl mrg out) y=(inS out y || inS l y)
 |[],out,hc,_,_,_=>⟨hc,fun y=>by simp[wC]⟩
 |s::l,out,hc,hv,hp,hb=>by
  rw[pairwise_cons]at hp;obtain⟨m1,m2,m3⟩:=aiA hc (hv s (by simp)) (fun o ho=>hb o ho s (by simp));obtain⟨f1,f2⟩:=OU l (mrg out s) m1 (fun t ht=>hv t (by simp[ht])) hp.2 (fun o ho t ht=>Int.le_trans (m2 o ho) (hp.1 t ht));refine⟨f1,fun y=>?_⟩;rw[foldl_cons,f2,m3,Bool.or_assoc,<- oK];rfl
theorem MU {a:aL} {l:List aL} (h:Can (a::l)):Can l:=⟨(pairwise_cons.1 h.1).2,fun s hs=>h.2 s (by simp[hs])⟩
theorem Jw {a:aL} {l:List aL} (h:Can (a::l)) {y:Int} (hy:inS l y=true):a.to < y:=by
 obtain⟨s,hs,h1,_⟩:=(jS _ _).1 hy;have:=(pairwise_cons.1 h.1).1 s hs;omega
theorem Ye {a:aL} {l:List aL} (h:Can (a::l)) {y:Int} (hy:inS (a::l) y=true):a.from_<=y:=by
 rw[kE,Bool.or_eq_true]at hy;rcases hy with hy |hy
 ·simp only[aK,aM]at hy;exact hy.1
 ·have:=Jw h hy;have:a.from_ < a.to:=h.2 a (by simp);omega
theorem jN:∀ {l m:List aL},Can l->Can m->(∀ y,inS l y=inS m y)->l=m
 |[],[],_,_,_=>rfl
 |[],b::m,_,hm,h=>by
  have:=h b.from_;have hb:b.from_ < b.to:=hm.2 b (by simp);rw[wC,kE]at this;simp[hb]at this
 |a::l,[],hl,_,h=>by
  have:=h a.from_;have ha:a.from_ < a.to:=hl.2 a (by simp);rw[wC,kE]at this;simp[ha]at this
 |a::l,b::m,hl,hm,h=>by
  have ha:a.from_ < a.to:=hl.2 a (by simp);have hb:b.from_ < b.to:=hm.2 b (by simp);have ina:inS (a::l) a.from_=true:=by rw[kE];simp[ha]
  have inb':inS (b::m) b.from_=true:=by rw[kE];simp[hb]
  have e1:a.from_=b.from_:=by
   have h1:=Ye hm (by rw[<- h];exact ina);have h2:=Ye hl (by rw[h];exact inb');omega
  have nl:∀ (c:aL) (k:List aL),Can (c::k)->inS (c::k) c.to=false:=by
   intro c k hk;cases hc:inS (c::k) c.to with
   |false=>rfl
   |true=>
    rw[kE,Bool.or_eq_true]at hc;rcases hc with hc |hc
    ·simp at hc
    ·have:=Jw hk hc;omega
  have e2:a.to=b.to:=by
   rcases Int.lt_trichotomy a.to b.to with hlt |he |hlt
   ·have h1:=nl a l hl;rw[h,kE]at h1;simp only[Bool.or_eq_false_iff,Bool.and_eq_false_iff,bU]at h1;omega
   ·exact he
   ·have h1:=nl b m hm;rw[<- h,kE]at h1;simp only[Bool.or_eq_false_iff,Bool.and_eq_false_iff,bU]at h1;omega
  have e:a=b:=by cases a;cases b;simp only at e1 e2;rw[e1,e2]
  subst e;rw[jN (MU hl) (MU hm) fun y=>?_];have hy:=h y;rw[kE,kE]at hy;cases h1:inS l y with
  |true=>
   have:=Jw hl h1;have z:(decide (a.from_<=y)&&decide (y < a.to))=false:=(by rw[Bool.and_eq_false_iff,bU,bU];omega);rw[z,h1,Bool.false_or,Bool.false_or]at hy;rw[<- hy]
  |false=>
   cases h2:inS m y with
   |false=>rfl
   |true=>
    have:=Jw hm h2;have z:(decide (a.from_<=y)&&decide (y < a.to))=false:=(by rw[Bool.and_eq_false_iff,bU,bU];omega);rw[z,h1,h2]at hy;simp at hy
def ZH (l:List aL):List aL:=(gK ltS l).foldl mrg []
theorem aiB {l:List aL} (h:l.Pairwise fun x y=>ltS y x=false):l.Pairwise fun x y=>x.from_<=y.from_:=
 h.imp fun {x y} hxy=>by simp only[ltS,bU]at hxy;omega
theorem OV {l:List aL} (h:∀ s∈l,OkS s):Can (ZH l)∧∀ y,inS (ZH l) y=inS l y:=by
 have hp:=E8 ltS l;obtain⟨h1,h2⟩:=OU (gK ltS l) [] tX (fun s hs=>h s (hp.mem_iff.1 hs)) (aiB (isort_sorted MS l)) (by simp);exact⟨h1,fun y=>by rw[ZH,h2,wC,Bool.false_or,UC hp]⟩
theorem ahe {l:List aL} (h:∀ s∈l,OkS s):(zI ltS l).foldl mrg []=ZH l:=by
 have hp:=EJ MS l;obtain⟨h1,h2⟩:=OU (zI ltS l) [] tX (fun s hs=>h s (hp.mem_iff.1 hs)) (aiB (EK MS l)) (by simp);obtain⟨h3,h4⟩:=OV h;exact jN h1 h3 fun y=>by rw[h2,wC,Bool.false_or,UC hp,h4]
theorem ab3 (l:List aL):(ZH l).length<=l.length:=by
 have:∀ (ys out:List aL),(ys.foldl mrg out).length<=out.length+ys.length:=by
  intro ys
  induction ys with
  |nil=>intro out;simp
  |cons y ys ih=>
   intro out;simp only[foldl_cons,bH];have:=ih (mrg out y);have:=KJ out y;omega
 have h:=this (gK ltS l) [];rw[dD]at h;simpa[ZH]using h
abbrev OkR (r:aj):Bool:=decide (0<=r.x0)&&(decide (r.x0 < r.x1)&&(decide (r.x1<=1048576)&&(decide (0<=r.y0)&&(decide (r.y0 < r.y1)&&decide (r.y1<=1048576)))))
theorem E9 (a b:Bool):(bif a then some b else some false)=some (a&&b):=by cases a<;>rfl
theorem akA (a b:Bool):(bif a then some true else some b)=some (a || b):=by cases a<;>rfl
theorem ve (r:aj):yD r=some (OkR r):=by simp only[yD,E9]
def dN (l:List aj) (x:Int):List aL:=(l.filter fun r=>decide (r.x0<=x)&&decide (x < r.x1)).map fun r=>⟨r.y0,r.y1⟩
def bQ (l:List aj) (x:Int):List aL:=ZH (dN l x)
theorem tY (l:List aj) (x:Int):(dN l x).length<=l.length:=by simp only[dN,length_map];exact length_filter_le _ _
theorem tZ (l:List aj) (x:Int):(bQ l x).length<=l.length:=
 Nat.le_trans (ab3 _) (tY l x)
theorem ak5 {r:aj} (h:OkR r=true):r.y0 < r.y1:=by simp only[OkR,aK,aM]at h;omega
theorem KL {l:List aj} (h:∀ r∈l,OkR r=true) (x:Int):∀ s∈dN l x,OkS s:=by
 intro s hs;simp only[dN,mem_map,mem_filter]at hs;obtain⟨r,⟨hr,_⟩,rfl⟩:=hs;exact ak5 (h r hr)
theorem OW {l:List aj} {x:Int} (hl:l.length < 1099511627776) {n:Nat} (hn:l.length < n):iter (sP l x) n ((0:Int),([]:List aL))=some (dN l x):=by
 have:=cZ (l:=l) (step:=sP l x) (fun i (s:List aL)=>((i:Int),s)) (fun r s=>bif decide (r.x0<=x)&&decide (x < r.x1)then s++[⟨r.y0,r.y1⟩]else s) (fun s=>s) (fun i s=>s.length<=i)
  (fun i hi s hs=>?_) (fun s hs=>by simp[sP]) n hn [] (aU _)
 ·rw[show ((0:Nat):Int)=0 from rfl]at this;rw[this];congr 1;have gen:∀ (ys:List aj) (s:List aL),ys.foldl (fun s r=>bif decide (r.x0<=x)&&decide (x < r.x1)then s++[⟨r.y0,r.y1⟩]else s) s=s++dN ys x:=by
   intro ys
   induction ys with
   |nil=>intro s;simp[dN]
   |cons y ys ih=>
    intro s;simp only[foldl_cons,ih];cases h:(decide (y.x0<=x)&&decide (x < y.x1))with
    |true=>simp[dN,h]
    |false=>simp[dN,h]
  simpa using gen l []
 ·have hi':decide (((i:Nat):Int) < (l.length:Int))=true:=by simpa using hi
  have ap:bM s.length s.length (sub ([(aL.mk l[i].y0 l[i].y1)]:List aL) 0 1).length 1 16=true:=bI (n:=1);simp only[sP,hi',au,aY hi,ah,E9];cases h:(decide (l[i].x0<=x)&&decide (x < l[i].x1))with
  |true=>
   simp only[au,ap,dH,aC,ah];refine⟨?_,by simp;omega⟩;rw[aN (by omega)];rfl
  |false=>
   simp only[aA,aC,au,ah];exact⟨by rw[aN (by omega)],by omega⟩
theorem OX {n:Nat} (w1 r2:List aL) (hw:w1.length=r2.length) (hl:r2.length < 1099511627776) (hn:r2.length < n):iter (sQ w1 r2) n ((0:Int),([]:List aL))=some (r2.foldl mrg []):=by
 have:=cZ (l:=r2) (step:=sQ w1 r2) (fun i (s:List aL)=>((i:Int),s)) (fun r s=>mrg s r) (fun s=>s) (fun i s=>s.length<=i)
  (fun i hi s hs=>?_) (fun s hs=>by simp[sQ,hw]) n hn [] (aU _)
 ·rw[show ((0:Nat):Int)=0 from rfl]at this;exact this
 ·refine⟨?_,by have:=KJ s r2[i];omega⟩;have hi':decide (((i:Nat):Int) < ((w1.length:Nat):Int))=true:=by simp;omega
  have ib:inb (i:Int) w1.length=true:=bC (by omega);have ap:bM s.length s.length (sub ([r2[i]]:List aL) 0 1).length 1 16=true:=bI (n:=1);simp only[sQ,hi',au,ib,dh hi,ah];rcases List.eq_nil_or_concat s with rfl |⟨s0,q,hsq⟩
  ·have d0:decide (((([]:List aL).length:Nat):Int)>0)=false:=(by simp);simp only[d0,aA,ah,ap,au,dH,aC];rw[aN (by omega)];rfl
  ·rw[List.concat_eq_append]at hsq;subst hsq;have d0:decide (((((s0++[q]).length:Nat):Int))>0)=true:=(by simp<;>omega);have lenq:(s0++[q]).length=s0.length+1:=(by simp);have wp:i64.wrap ((((s0++[q]).length:Nat):Int) - 1)=((s0.length:Nat):Int):=(by rw[gB (by simp) (by omega),lenq];rfl);have ib2:inb ((s0.length:Nat):Int) (s0++[q]).length=true:=bC (by omega);have g:at? (s0++[q]) (((0:Nat):Int)+((s0.length:Nat):Int))=some q:=(by rw[gW];simp);have z:(((0:Nat):Int)+((s0.length:Nat):Int)).toNat=s0.length:=(by simp);have st:(s0++[q]).set s0.length (aL.mk q.from_ (max q.to r2[i].to))=s0++[⟨q.from_,max q.to r2[i].to⟩]:=(by simp);have m:mrg (s0++[q]) r2[i]=bif decide (r2[i].from_<=q.to)then s0++[⟨q.from_,max q.to r2[i].to⟩]else s0++[q]++[r2[i]]:=(by simp[mrg]);simp only[d0,au,wp,ib2,g,ah,m,z,st];cases decide (r2[i].from_<=q.to)with
   |true=>
    have e:eqL (s0++[q]).length (s0++[(⟨q.from_,max q.to r2[i].to⟩:aL)]).length=true:=(by simp);simp only[au,e,ah,aC];rw[aN (by omega)]
   |false=>
    simp only[aA,ap,au,dH,aC,ah];rw[aN (by omega)];rfl
theorem ZI {n:Nat} {l:List aj} {x:Int} (hv:∀ r∈l,OkR r=true) (hl:l.length < 1099511627776) (hn:l.length < n):Jf n l x=some (bQ l x):=by
 have h1:=tY l x;have h2:(zI ltS (dN l x)).length=(dN l x).length:=Mj MS _;unfold Jf;simp only[length_nil,aC,au,OW (x:=x) (l:=l) (by omega) (n:=n) (by omega),ah];rw[JH (fun a b=>if a.from_ < b.from_ then -1 else if b.from_ < a.from_ then 1 else 0) (fun a b=>by show yH a b=_;unfold yH;rw[jM];rfl) (fun a b=>by
  by_cases h1:a.from_ < b.from_
  ·simp[h1]
  ·by_cases h2:b.from_ < a.from_<;>simp[h1,h2]) (by omega) (by omega)]
 simp only[ah];rw[OX _ _ h2.symm (by omega) (by omega)];simp only[ah,bE,aC,au];rw[ahe (KL hv x)];rfl
def aR (l:List aj):List Int:=uH (l.flatMap fun r=>[r.x0,r.x1])
def gX {α:Type} (f:Int->Int->α):List Int->List α
 |a::b::l=>f a b::gX f (b::l)
 |_=>[]
def bq (l:List aj):List bg:=gX (fun a b=>⟨a,b,bQ l a⟩) (aR l)
theorem jO {α:Type} (f:Int->Int->α):∀ (l:List Int),(gX f l).length=l.length - 1∧∀ i (h:i+1 < l.length) (h':i < (gX f l).length),(gX f l)[i]=f l[i] l[i+1]
 |[]=>⟨rfl,fun i h=>by simp at h⟩
 |[a]=>⟨rfl,fun i h=>by simp at h⟩
 |a::b::l=>by
  obtain⟨h1,h2⟩:=jO f (b::l);refine⟨by simp only[gX,bH,h1];simp,fun i h h'=>?_⟩;cases i with
  |zero=>rfl
  |succ i=>
   simp only[gX,List.getElem_cons_succ];exact h2 i (by simpa using h) _
theorem iE (l:List aj):(l.flatMap fun r=>[r.x0,r.x1]).length=2*l.length:=by
 induction l with
 |nil=>rfl
 |cons x l ih=>simp only[List.flatMap_cons,aZ,ih,bH,length_nil];omega
theorem jk (l:List Int):(fM l).length<=l.length:=by
 match l with
 |[]=>simp[fM]
 |[x]=>simp[fM]
 |x::y::l=>
  have:=jk (y::l);simp only[fM];cases x==y<;>simp at* <;>omega
theorem nM (l:List aj):(aR l).length<=2*l.length:=by
 have h:=jk (gK (fun a b=>decide (a < b)) (l.flatMap fun r=>[r.x0,r.x1]));rw[dD,iE]at h;exact h
theorem OY {n:Nat} {l:List aj} (hl:l.length < 10995116277) (hn:l.length < n):iter (sS l) n ((0:Int),([]:List Int))=some (l.flatMap fun r=>[r.x0,r.x1]):=by
 have:=cZ (l:=l) (step:=sS l) (fun i (s:List Int)=>((i:Int),s)) (fun r s=>s++[r.x0,r.x1]) (fun s=>s) (fun i s=>s.length<=2*i)
  (fun i hi s hs=>?_) (fun s hs=>by simp[sS]) n hn [] (aU _)
 ·rw[show ((0:Nat):Int)=0 from rfl]at this;rw[this];have gen:∀ (ys:List aj) (s:List Int),ys.foldl (fun s r=>s++[r.x0,r.x1]) s=s++ys.flatMap fun r=>[r.x0,r.x1]:=by
   intro ys
   induction ys with
   |nil=>intro s;simp
   |cons y ys ih=>intro s;simp[ih]
  congr 1;simpa using gen l []
 ·have hi':decide (((i:Nat):Int) < ((l.length:Nat):Int))=true:=by simpa using hi
  have ap:bM s.length s.length (sub ([l[i].x0,l[i].x1]:List Int) 0 2).length 2 8=true:=bI (n:=2);simp only[sS,hi',au,bC hi,dh hi,ah,ap,dH,aC];refine⟨?_,by simp;omega⟩;rw[aN (by omega)];rfl
theorem ZJ {n:Nat} {ls:List (List aj)} (hv:∀ r∈ls.flatten,OkR r=true) (hl:ls.flatten.length < 10995116277) (hls:ls.length < 1099511627776) (hn:2*ls.flatten.length < n) (hn2:ls.length < n):Jg n ls=some (bq ls.flatten):=by
 unfold Jg;rw[MR (by omega) hls hn2];generalize ls.flatten=l at*;have he:=nM l;simp only[ah,length_nil,aC,au,OY (l:=l) (n:=n) (by omega) (by omega)];rw[oJ (by rw[iE];omega) (by rw[iE];omega)];simp only[ah,dD,aC,au];rw[nV (by rw[dD,iE];omega) (by rw[dD,iE];omega)];simp only[ah];have hE:fM (gK ltI (l.flatMap fun r=>[r.x0,r.x1]))=aR l:=rfl;rw[hE];obtain⟨p1,p2⟩:=jO (fun a b=>(⟨a,b,bQ l a⟩:bg)) (aR l);have key:iter (sU n l ((),aR l)) n ((1:Int),([]:List bg))=some (bq l):=by
  have:=d9 (step:=sU n l ((),aR l)) (fun i=>(((i+1:Nat):Int),(bq l).take i)) (bq l).length (bq l) (fun i hi=>?_) ?_ n (by unfold bq;omega)
  ·simpa using this
  ·have hi2:i+1 < (aR l).length:=(by unfold bq at hi;omega);have d:decide (((i+1:Nat):Int) < (((aR l).length:Nat):Int))=true:=(by simp;omega);have wp:i64.wrap (((i+1:Nat):Int) - 1)=((i:Nat):Int):=(by rw[gB (by omega) (by omega)];rfl);have ap:bM ((bq l).take i).length ((bq l).take i).length (sub ([(bg.mk ((aR l)[i]'(by omega)) (aR l)[i+1] (bQ l ((aR l)[i]'(by omega))))]:List bg) 0 1).length 1 40=true:=by
    refine bI (n:=1) ?_ ?_
    ·rw[length_take];unfold bq;omega
    ·rw[length_take];unfold bq;simp only[maxLen];omega
   have tk:(bq l).take (i+1)=(bq l).take i++[⟨(aR l)[i]'(by omega),(aR l)[i+1],bQ l ((aR l)[i]'(by omega))⟩]:=by
    rw[dW hi];congr 2;exact p2 i hi2 hi
   simp only[sU,d,au,wp,bC (show i < (aR l).length by omega),dh (show i < (aR l).length by omega),ah,bC hi2,dh hi2,bE,aC,ZI (l:=l) (n:=n) hv (by omega) (by omega),ap,dH];rw[aN (by omega),tk];rfl
  ·have d:decide ((((bq l).length+1:Nat):Int) < (((aR l).length:Nat):Int))=false:=(by unfold bq;simp;omega);simp only[sU,d,aA,List.take_length,aC,au]
 rw[key];simp only[ah,bE,aC,au]
def aF (x0 x1:Int) (c:List aL):List aj:=c.map fun q=>⟨x0,q.from_,x1,q.to⟩
def uf (x0 x1:Int) (c:List aL):List bg->List aj
 |[]=>aF x0 x1 c
 |s::l=>if s.column=c then uf x0 s.x1 c l else aF x0 x1 c++uf s.x0 s.x1 s.column l
def bD:List bg->List aj
 |[]=>[]
 |s::l=>uf s.x0 s.x1 s.column l
theorem Yf (x0:Int) (c:List aL):∀ (l:List bg) (x1:Int) (k:Nat) (hk:k<=l.length),(∀ j (hj:j < k),(l[j]'(by omega)).column=c)->(∀ h:k < l.length,l[k].column≠c)->
 uf x0 x1 c l=aF x0 (if h:0 < k then (l[k - 1]'(by omega)).x1 else x1) c++bD (l.drop k)
 |l,x1,0,_,_,h2=>by
  cases l with
  |nil=>simp[uf,bD]
  |cons s l=>
   have:=h2 (by simp);simp only[List.getElem_cons_zero]at this;simp[uf,bD,this]
 |[],x1,k+1,hk,_,_=>by simp at hk
 |s::l,x1,k+1,hk,h1,h2=>by
  have e0:=h1 0 (by omega);simp only[List.getElem_cons_zero]at e0;simp only[uf,e0,if_true];rw[Yf x0 c l s.x1 k (by simpa using hk) (fun j hj=>by have:=h1 (j+1) (by omega);simpa using this) (fun h=>by have:=h2 (by simpa using h);simpa using this)];simp only[List.drop_succ_cons];congr 2;by_cases hk0:0 < k
  ·simp only[hk0,dite_true,Nat.zero_lt_succ,Nat.add_sub_cancel];obtain⟨m,rfl⟩:∃ m,k=m+1:=⟨k - 1,by omega⟩;simp
  ·have:k=0:=(by omega);subst this;simp
theorem Ka (l:List bg) (b:Nat) (h:∀ s∈l,s.column.length<=b):(bD l).length<=l.length*b:=by
 have go:∀ (l:List bg) (x0 x1:Int) (c:List aL),c.length<=b->(∀ s∈l,s.column.length<=b)->(uf x0 x1 c l).length<=(l.length+1)*b:=by
  intro l
  induction l with
  |nil=>intro x0 x1 c hc _;simp only[uf,aF,length_map,length_nil];omega
  |cons s l ih=>
   intro x0 x1 c hc hl;simp only[uf];split
   ·have:=ih x0 s.x1 c hc (fun t ht=>hl t (bP _ ht));simp only[bH,Nat.add_mul]at*;omega
   ·have:=ih s.x0 s.x1 s.column (hl s (by simp)) (fun t ht=>hl t (bP _ ht));simp only[aZ,aF,length_map,bH,Nat.add_mul]at*;omega
 cases l with
 |nil=>simp[bD]
 |cons s l=>
  simp only[bD];exact go l _ _ _ (h s (by simp)) (fun t ht=>h t (bP _ ht))
theorem Rn {n:Nat} {l:List bg} {i k:Nat} (hi:i < l.length) (hk1:0 < k) (hk:k<=l.length) (hl:l.length < 10995116277) (x3:bg) (out:List aj) (ho:out.length < 1099511627776) (hc:x3.column.length < 1099511627776) (hn:x3.column.length < n):
 iter (wP l (i:Int) (k:Int) x3) n ((0:Int),out)=some (out++aF l[i].x0 (l[k - 1]'(by omega)).x1 x3.column):=by
 have:=cZ (l:=x3.column) (step:=wP l (i:Int) (k:Int) x3) (fun j (s:List aj)=>((j:Int),s)) (fun q s=>s++[⟨l[i].x0,q.from_,(l[k - 1]'(by omega)).x1,q.to⟩]) (fun s=>s) (fun j s=>s.length<=out.length+j)
  (fun j hj s hs=>?_) (fun s hs=>by simp[wP]) n hn out (aU _)
 ·rw[show ((0:Nat):Int)=0 from rfl]at this;rw[this];have gen:∀ (ys:List aL) (s:List aj),ys.foldl (fun s q=>s++[⟨l[i].x0,q.from_,(l[k - 1]'(by omega)).x1,q.to⟩]) s=s++aF l[i].x0 (l[k - 1]'(by omega)).x1 ys:=by
   intro ys
   induction ys with
   |nil=>intro s;simp[aF]
   |cons y ys ih=>intro s;simp only[foldl_cons,ih];simp[aF]
  rw[gen]
 ·have hj':decide (((j:Nat):Int) < (x3.column.length:Int))=true:=by simpa using hj
  have wp:i64.wrap ((k:Int) - 1)=((k - 1:Nat):Int):=gB hk1 (by omega);have ap:bM s.length s.length (sub ([(aj.mk l[i].x0 (x3.column[j]).from_ (l[k - 1]'(by omega)).x1 (x3.column[j]).to)]:List aj) 0 1).length 1 32=true:=bI (n:=1);simp only[wP,hj',au,aY hj,aY hi,wp,aY (show k - 1 < l.length by omega),ah,ap,dH,aC];refine⟨?_,by simp;omega⟩;rw[aN (by omega)];rfl
theorem ab4 {n:Nat} {l:List bg} {b:Nat} (hb:b<=100000) (hl:l.length<=100000) (hc:∀ s∈l,s.column.length<=b) (hn:b < n) (hn2:l.length < n):MC n l=some (bD l):=by
 unfold MC;simp only[length_nil,aC,au];have main:∀ (m i:Nat) (out:List aj) (k:Nat),i+m=l.length->m < k->out.length<=i*b->iter (wQ n l) k ((i:Int),out)=some (out++bD (l.drop i)):=by
  intro m
  induction m using Nat.strongRecOn with
  |ind m ih=>
   intro i out k him hk ho;obtain⟨k,rfl⟩:∃ j,k=j+1:=⟨k - 1,by omega⟩;by_cases hm:m=0
   ·subst hm;have:i=l.length:=(by omega);subst this;refine bF ?_;simp[wQ,bD]
   ·have hi:i < l.length:=(by omega);have di:decide (((i:Nat):Int) < (l.length:Int))=true:=(by simpa using hi);obtain⟨q,hq1,hq2,hq3,hq4⟩:∃ q,i < q∧q<=l.length∧(∀ j,i < j->j < q->∀ h:j < l.length,l[j].column=l[i].column)∧(∀ h:q < l.length,l[q].column≠l[i].column):=by
     rcases vQ (fun j=>if h:j < l.length then decide (l[j].column≠l[i].column)else false) (i+1) l.length with ⟨q,h1,h2,h3,h4⟩ |h
     ·simp only[h2,dite_true,aM]at h3;refine⟨q,by omega,by omega,fun j hj1 hj2 hj=>?_,fun _=>h3⟩;have:=h4 j (by omega) hj2;simp only[hj,dite_true,bU,ne_eq,Decidable.not_not]at this;exact this
     ·refine⟨l.length,hi,aU _,fun j hj1 hj2 hj=>?_,fun h=>by omega⟩;have:=h j (by omega) hj;simp only[hj,dite_true,bU,ne_eq,Decidable.not_not]at this;exact this
    have cl:∀ j (hj:j < l.length),l[j].column.length<=b:=fun j hj=>hc _ (getElem_mem hj);have r2:iter (rV n l (i:Int)) n (i64.wrap ((i:Int)+1))=some (q:Int):=by
     rw[aN (by omega)];have:=d9 (step:=rV n l (i:Int)) (fun j=>((i+1+j:Nat):Int)) (q - (i+1)) (q:Int) (fun j hj=>?_) ?_ n (by omega)
     ·simpa using this
     ·have hjl:i+1+j < l.length:=(by omega);have dj:decide (((i+1+j:Nat):Int) < (l.length:Int))=true:=(by simp;omega);have hcc:=cl (i+1+j) hjl;simp only[rV,dj,au,aY hjl,aY hi,ah];rw[Dx (by omega) (by omega),hq3 (i+1+j) (by omega) (by omega) hjl];simp only[decide_true,ah,au];rw[aN (by omega)];rfl
     ·rw[show i+1+(q - (i+1))=q by omega];by_cases hql:q < l.length
      ·have dj:decide (((q:Nat):Int) < (l.length:Int))=true:=(by simpa using hql);have hcc:=cl q hql;simp only[rV,dj,au,aY hql,aY hi,ah];rw[Dx (by omega) (by omega)];simp[hq4 hql]
      ·have dj:decide (((q:Nat):Int) < (l.length:Int))=false:=(by simp;omega);simp only[rV,dj,aA,ah]
    have ob:i*b<=100000*100000:=Nat.mul_le_mul (by omega) hb;have hci:=cl i hi;have r3:=Rn (n:=n) hi (show 0 < q by omega) hq2 (by omega) l[i] out (by omega) (by omega) (by omega);have step:wQ n l ((i:Int),out)=some (.inl ((q:Int),out++aF l[i].x0 (l[q - 1]'(by omega)).x1 l[i].column)):=(by simp only[wQ,di,au,r2,aY hi,ah,aC,r3]);rw[dK step,ih (l.length - q) (by omega) q _ k (by omega) (by omega) (by
     rw[aZ,aF,length_map];have:(i+1)*b<=q*b:=Nat.mul_le_mul_right _ (by omega);rw[Nat.add_mul]at this;omega)]
    rw[aQ];congr 2
    conv=>rhs;rw[drop_eq_getElem_cons hi]
    simp only[bD];rw[Yf l[i].x0 l[i].column (l.drop (i+1)) l[i].x1 (q - (i+1)) (by rw[length_drop];omega) (fun j hj=>by
     rw[getElem_drop];exact hq3 _ (by omega) (by omega) (by omega)) (fun h=>by
     rw[length_drop]at h;rw[getElem_drop];have:=hq4 (by omega);have hqq:i+1+(q - (i+1))=q:=(by omega);simp only[hqq];exact this)]
    rw[List.drop_drop,show i+1+(q - (i+1))=q by omega];congr 2;by_cases h0:0 < q - (i+1)
    ·simp only[h0,dite_true,getElem_drop];congr 2;omega
    ·simp only[h0,dite_false];have:q - 1=i:=(by omega);congr 2
 have:=main l.length 0 [] n (by omega) (by omega) (by simp);simp only[Int.natCast_zero,cu,List.drop_zero]at this;rw[this];simp
def ofL (l:List aj):List aj×Int:=
 if l.all OkR then (if l.length>400 then ([],6)else if (bD (bq l)).length>200 then ([],6)else (bD (bq l),0))else ([],1)
def rightL (l:List aj):Bool:=decide ((ofL l).2=0)&&decide ((ofL l).1=l)
theorem QL {l:List aj} {s:bg} (h:s∈bq l):s.column.length<=l.length:=by
 obtain⟨i,hi,rfl⟩:=List.getElem_of_mem h;obtain⟨p1,p2⟩:=jO (fun a b=>(⟨a,b,bQ l a⟩:bg)) (aR l);have:(bq l)[i]=⟨(aR l)[i]'(by unfold bq at hi;omega),(aR l)[i+1]'(by unfold bq at hi;omega),bQ l ((aR l)[i]'(by unfold bq at hi;omega))⟩:=p2 i (by unfold bq at hi;omega) hi;rw[this];exact tZ l _
theorem UD (l:List aj):(bq l).length<=2*l.length:=by
 obtain⟨p1,_⟩:=jO (fun a b=>(⟨a,b,bQ l a⟩:bg)) (aR l);have:=nM l;unfold bq;omega
theorem aiC {n:Nat} {l:List aj} (hl:l.length < 1099511627776) (hl2:l.length < n) (hn:1000<=n):agt n l=some (ofL l):=by
 unfold agt;have h1:=jW (l:=l) (step:=ME l) (fun i=>(i:Int)) (fun r=>!OkR r) () (fun _=>(([]:List aj),(1:Int))) (fun i hi=>?_) ?_ n (by omega)
 ·rw[show ((0:Nat):Int)=0 from rfl]at h1;rw[h1];have h2:=j5 (fun r=>!OkR r) l;cases hf:nR (fun r=>!OkR r) l with
  |some i=>
   rw[hf]at h2;have:l.all OkR=false:=by
    rw[<- Bool.not_eq_true,all_eq_true];intro hall;have h3:=h2.symm;simp only[Option.isSome_some,any_eq_true]at h3;obtain⟨x,hx,hx2⟩:=h3;rw[hall x hx]at hx2;cases hx2
   simp[ofL,this]
  |none=>
   rw[hf]at h2;have:l.all OkR=true:=by
    rw[all_eq_true];intro x hx;cases h:OkR x with
    |true=>rfl
    |false=>
     have:l.any (fun r=>!OkR r)=true:=any_eq_true.2 ⟨x,hx,by rw[h];rfl⟩;rw[this]at h2;cases h2
   have hv:∀ r∈l,OkR r=true:=all_eq_true.1 this;by_cases h400:l.length>400
   ·have d4:decide ((l.length:Int)>400)=true:=(by simp;omega);simp only[fD,d4,au,ofL,this,if_true,aJ h400]
   have d4:decide ((l.length:Int)>400)=false:=(by simp;omega);have ls:=UD l;simp only[fD,d4,aA];have fl:[l].flatten=l:=(by simp);rw[show (sub ([l]:List (List aj)) 0 1)=[l]from rfl,ZJ (ls:=[l]) (by rw[fl];exact hv) (by rw[fl];omega) (by simp) (by rw[fl];omega) (by simp;omega),fl];simp only[length_singleton,aC,au,ah,bE];rw[ab4 (b:=400) (by omega) (by omega) (fun s hs=>Nat.le_trans (QL hs) (by omega)) (by omega) (by omega)];simp only[ah,bE,aC,au,KD,ofL,this,if_true,aD h400];by_cases h200:(bD (bq l)).length>200
   ·have:decide (((bD (bq l)).length:Int)>200)=true:=(by simp;omega);simp only[this,au,ah,h200,if_true]
   ·have:decide (((bD (bq l)).length:Int)>200)=false:=(by simp;omega);simp only[this,aA,ah,h200,if_false]
 ·have hi':decide (((i:Nat):Int) < (l.length:Int))=true:=by simpa using hi
  simp only[ME,hi',au,aY hi,ah,ve];cases OkR l[i]with
  |false=>rfl
  |true=>simp only[Bool.not_true,aA];rw[aN (by omega)]
 ·simp[ME]
theorem oL {n:Nat} {l:List aj} (hl:l.length < 1099511627776) (hl2:l.length < n) (hn:1000<=n):sV n l=some (rightL l):=by
 unfold sV rightL;rw[aiC hl hl2 hn];simp only[ah];by_cases h:(ofL l).2=0
 ·have e:((ofL l).2==0)=true:=by simp[h]
  have lo:(ofL l).1.length<=200:=by
   unfold ofL;split
   ·split
    ·simp
    ·split
     ·simp
     ·simp;omega
   ·simp
  by_cases hlen:(ofL l).1.length < n
  ·simp only[e,au,h,decide_true,Bool.true_and];rw[Dw (by omega) hlen];rfl
  ·have:(ofL l).1.length≠l.length:=(by omega);have hne:(ofL l).1≠l:=fun e=>this (by rw[e]);simp only[e,au,h,decide_true,Bool.true_and];unfold nG;have hb:(((ofL l).1.length:Int) != (l.length:Int))=true:=(by simp;omega);rw[hb];simp[hne]
 ·have e:((ofL l).2==0)=false:=by simp[h]
  simp[e,h]
theorem lU {α:Type} (c:Bool) (a b:α):(bif c then some a else some b)=some (bif c then a else b):=by cases c<;>rfl
theorem Dy (i n:Nat):Int.tmod (i:Int) (n:Int)=((i%n:Nat):Int):=by rw[Int.tmod_eq_emod_of_nonneg (by omega)];omega
theorem bG {i n:Nat} (h:i < n):decide ((i:Int) < ((n:Nat):Int))=true:=by simpa using h
theorem fP (n:Nat):decide ((n:Int) < ((n:Nat):Int))=false:=by simp
theorem ajG {k b:Nat} (h:k*b<=140737488355328) (h2:k<=maxLen):Ri (k:Int) b=true:=by
 have e:((k:Int)).toNat=k:=by omega
 simp only[Ri,aK,aM,e];exact⟨⟨by omega,h⟩,h2⟩
def ptA (p:List bS) (i:Nat):bS:=p.getD i ⟨0,0⟩
def dI (p:List bS) (i:Nat):jb:=⟨(ptA p i).x,(ptA p i).y,(ptA p ((i+1)%p.length)).x,(ptA p ((i+1)%p.length)).y⟩
def fV (p:List bS):List jb:=(List.range p.length).map (dI p)
theorem kF {p:List bS} {i:Nat} (h:i < p.length):ptA p i=p[i]:=by simp[ptA,h]
theorem dZ (p:List bS):(fV p).length=p.length:=by simp[fV]
theorem zR {p:List bS} {i:Nat} (h:i < (fV p).length):(fV p)[i]=dI p i:=by simp[fV]
theorem UE {α:Type} (A B:List α) (z x:α):(A++z::B).set A.length x=A++x::B:=by rw[List.set_append_right _ _ (aU _),Nat.sub_self];rfl
theorem BD {n:Nat} {p:List bS} (hl:p.length<=100000) (hn:p.length < n):oH n p=some (fV p):=by
 unfold oH;have mk:Ri ((p.length:Nat):Int) 32=true:=ajG (by omega) (by show p.length<=2 ^ 63 - 1;omega);have main:=d9 (step:=nS p) (fun i=>(((i:Nat):Int),(List.range i).map (dI p)++List.replicate (p.length - i) (jb.mk 0 0 0 0))) p.length (fV p) (fun i hi=>?_) ?_ n hn
 ·have z:(((p.length:Nat):Int)).toNat=p.length:=by omega
  simp only[List.range_zero,List.map_nil,cu,Nat.sub_zero]at main;have d1:decide (((p.length:Nat):Int)<=((p.length:Nat):Int))=true:=by simp
  have d2:decide ((0:Int)<=((p.length:Nat):Int))=true:=by simp
  rw[mk,d1,d2,z];simp only[Bool.and_self,au];rw[show ((0:Nat):Int)=0 from rfl]at main;rw[main];simp only[ah];have e:sub (fV p) 0 p.length=fV p:=by rw[<- dZ p];exact bE _
  rw[e,dZ];simp
 ·have nz:(((p.length:Nat):Int) != 0)=true:=by simp;intro h;rw[h]at hi;simp at hi
  have md:(i+1)%p.length < p.length:=Nat.mod_lt _ (by omega);have w:i64.wrap ((i:Int)+1)=((i+1:Nat):Int):=aN (by omega);have z:(((p.length:Nat):Int)).toNat=p.length:=by omega
  have rp:List.replicate (p.length - i) (jb.mk 0 0 0 0)=jb.mk 0 0 0 0::List.replicate (p.length - (i+1)) (jb.mk 0 0 0 0):=by rw[show p.length - i=(p.length - (i+1))+1 by omega,List.replicate_succ]
  have la:((List.range i).map (dI p)).length=i:=by simp
  have g:at? ((List.range i).map (dI p)++List.replicate (p.length - i) (jb.mk 0 0 0 0)) (((0:Nat):Int)+((i:Nat):Int))=some (jb.mk 0 0 0 0):=by rw[gW,eZ (by omega),la,rp,Nat.sub_self];rfl
  have z2:(((0:Nat):Int)+((i:Nat):Int)).toNat=i:=by omega
  have st:((List.range i).map (dI p)++List.replicate (p.length - i) (jb.mk 0 0 0 0)).set i (dI p i)=(List.range (i+1)).map (dI p)++List.replicate (p.length - (i+1)) (jb.mk 0 0 0 0):=by
   rw[rp];have:=UE ((List.range i).map (dI p)) (List.replicate (p.length - (i+1)) (jb.mk 0 0 0 0)) (jb.mk 0 0 0 0) (dI p i);rw[la]at this;rw[this,List.range_succ,List.map_append,aQ];rfl
  simp only[nS,bG hi,au,aY hi,ah,nz,w,Dy,aY md,z,bC hi,g,z2];rw[<- kF hi,<- kF md];rw[show jb.mk (ptA p i).x (ptA p i).y (ptA p ((i+1)%p.length)).x (ptA p ((i+1)%p.length)).y=dI p i from rfl,st]
 ·simp only[nS,fP,aA,Nat.sub_self,List.replicate_zero,append_nil];rfl
def Jy (a:bS):Bool:=decide (0<=a.x)&&(decide (a.x<=1048576)&&(decide (0<=a.y)&&decide (a.y<=1048576)))
def upP (s:jb):Bool:=s.a_x==s.b_x
def xP (s t:jb):Bool:=decide (max (min s.a_x s.b_x) (min t.a_x t.b_x)<=min (max s.a_x s.b_x) (max t.a_x t.b_x))&&decide (max (min s.a_y s.b_y) (min t.a_y t.b_y)<=min (max s.a_y s.b_y) (max t.a_y t.b_y))
def pI (a b:bS):Bool:=decide (a.x < b.x) || (a.x==b.x&&decide (a.y < b.y))
theorem MV (a:bS):sW a=some (Jy a):=by simp only[sW,E9,Jy]
theorem Dz (s t:jb):ko s t=some (xP s t):=by simp only[ko,E9,xP]
theorem lV (s:jb):gV s=some (upP s):=rfl
theorem UF {n:Nat} (a b:Int) (hn:3<=n):rE n [a,b]=some (if a=0 then b else a):=by
 obtain⟨m,rfl⟩:∃ m,n=m+3:=⟨n - 3,by omega⟩;have w1:i64.wrap ((0:Int)+1)=1:=by decide
 have w2:i64.wrap ((1:Int)+1)=2:=by decide
 by_cases ha:a=0
 ·by_cases hb:b=0
  ·subst ha;subst hb;simp only[rE,Df,vT,w1,w2];rfl
  ·have hb':(b != 0)=true:=(by simpa using hb);subst ha;simp only[rE,Df,vT,w1];simp[at?,hb',dX]
 ·have ha':(a != 0)=true:=by simpa using ha
  simp only[rE,Df,vT];simp[at?,ha',dX,ha]
theorem KM {n:Nat} (a b:bS) (hn:3<=n):∃ r,qY n a b=some r∧decide (r>=0)=!pI a b:=by
 unfold qY;rw[jM,jM];simp only[ah];rw[show ∀ u v:Int,sub [u,v] 0 2=[u,v]from fun _ _=>rfl,UF _ _ hn];refine⟨_,rfl,?_⟩;unfold pI;by_cases h1:a.x < b.x
 ·simp[h1]
 ·by_cases h2:b.x < a.x
  ·have h3:¬ a.x=b.x:=(by omega);simp[h1,h2,h3]
  ·have h3:a.x=b.x:=(by omega);by_cases h4:a.y < b.y
   ·simp[h3,h4]
   ·by_cases h5:b.y < a.y<;>simp[h3,h4,h5]
def aeJ (p:List bS) (i:Nat):Bool:=
 (!Jy (ptA p i) || ((((dI p i).a_x==(dI p i).b_x)==((dI p i).a_y==(dI p i).b_y)) || (upP (dI p i)==upP (dI p ((i+1)%p.length))))) || (decide (0 < i)&&!pI (ptA p 0) (ptA p i))
def ug (p:List bS) (i k:Nat):Bool:=decide (i+p.length - k>1)&&xP (dI p i) (dI p k)
def vg (p:List bS):Bool:=
 decide (4<=p.length)&&(decide (p.length<=60)&&(!((List.range p.length).any (aeJ p))&&(!((List.range p.length).any fun i=>(List.range p.length).any fun k=>decide (i+2<=k)&&ug p i k)&&!upP (dI p 0))))
def aV (l:List aj) (x y:Int):Bool:=l.any fun r=>(decide (r.x0<=x)&&decide (x < r.x1))&&(decide (r.y0<=y)&&decide (y < r.y1))
theorem Hr (l:List aj) (x y:Int):inS (dN l x) y=aV l x y:=by
 induction l with
 |nil=>rfl
 |cons r l ih=>
  unfold dN aV at*;rw[List.filter_cons,List.any_cons,<- ih];cases h:(decide (r.x0<=x)&&decide (x < r.x1))with
  |true=>simp only[if_true,bf,Bool.true_and];rw[kE]
  |false=>simp
theorem eu {l:List aj} (h:∀ r∈l,OkR r=true) (x:Int):Can (bQ l x)∧∀ y,inS (bQ l x) y=aV l x y:=by
 obtain⟨h1,h2⟩:=OV (KL h x);exact⟨h1,fun y=>by rw[bQ,h2,Hr]⟩
def nQ:List bg->Prop
 |[]=>True
 |[s]=>s.x0 < s.x1
 |s::t::l=>s.x0 < s.x1∧s.x1=t.x0∧nQ (t::l)
def fI:List bg->Int->List aL
 |[],_=>[]
 |s::l,x=>bif decide (s.x0<=x)&&decide (x < s.x1)then s.column else fI l x
theorem iT (s:bg) (l:List bg) (x:Int):fI (s::l) x=bif decide (s.x0<=x)&&decide (x < s.x1)then s.column else fI l x:=rfl
def Runs:List bg->Prop
 |[]=>True
 |[s]=>s.x0 < s.x1∧s.column≠[]
 |s::t::l=>(s.x0 < s.x1∧s.column≠[])∧s.x1<=t.x0∧(s.x1=t.x0->s.column≠t.column)∧Runs (t::l)
theorem fJ {s:bg} {l:List bg} (h:Runs (s::l)):Runs l:=by
 cases l with
 |nil=>trivial
 |cons t l=>exact h.2.2.2
theorem iA {s:bg} {l:List bg} (h:Runs (s::l)):s.x0 < s.x1∧s.column≠[]:=by
 cases l with
 |nil=>exact h
 |cons t l=>exact h.1
theorem kG:∀ {l:List bg} {b x:Int},Runs l->(∀ s∈l.head?,b<=s.x0)->x < b->fI l x=[]
 |[],_,_,_,_,_=>rfl
 |s::l,b,x,h,hb,hx=>by
  have h0:=hb s rfl;have hs:=iA h;have c:(decide (s.x0<=x)&&decide (x < s.x1))=false:=by rw[Bool.and_eq_false_iff,bU];left;omega
  rw[iT,c,aA];refine kG (fJ h) (b:=s.x1) (fun t ht=>?_) (by omega);cases l with
  |nil=>cases ht
  |cons u l=>
   have:t=u:=(by simpa using ht.symm);subst this;exact h.2.1
theorem wD {s:bg} {l:List bg} {x:Int} (h1:s.x0<=x) (h2:x < s.x1):fI (s::l) x=s.column:=by rw[iT,show (decide (s.x0<=x)&&decide (x < s.x1))=true by simp[h1,h2]];rfl
theorem wW {s:bg} {l:List bg} {x:Int} (h:s.x1<=x):fI (s::l) x=fI l x:=by rw[iT,show (decide (s.x0<=x)&&decide (x < s.x1))=false by rw[Bool.and_eq_false_iff,bU,bU];right;omega];rfl
theorem ab5 {s:bg} {l:List bg} (h:Runs (s::l)):fI l s.x1≠s.column:=by
 have hs:=iA h;cases l with
 |nil=>exact fun e=>hs.2 e.symm
 |cons t l=>
  obtain⟨_,h2,h3,h4⟩:=h;have ht:=iA h4;by_cases e:s.x1=t.x0
  ·rw[wD (by omega) (by omega)];exact fun e'=>h3 e e'.symm
  ·rw[kG h4 (b:=t.x0) (fun u hu=>by have:u=t:=by simpa using hu.symm
                                    subst this;exact Int.le_refl _) (by omega)]
   exact fun e'=>hs.2 e'.symm
theorem QM:∀ {l m:List bg},Runs l->Runs m->(∀ x,fI l x=fI m x)->l=m
 |[],[],_,_,_=>rfl
 |[],b::m,_,hm,h=>by
  have hb:=iA hm;have:=h b.x0;rw[wD (Int.le_refl _) hb.1]at this;exact absurd this.symm hb.2
 |a::l,[],hl,_,h=>by
  have ha:=iA hl;have:=h a.x0;rw[wD (Int.le_refl _) ha.1]at this;exact absurd this ha.2
 |a::l,b::m,hl,hm,h=>by
  have ha:=iA hl;have hb:=iA hm;have e0:a.x0=b.x0:=by
   rcases Int.lt_trichotomy a.x0 b.x0 with hlt |he |hlt
   ·have:=h a.x0
    rw[wD (Int.le_refl _) ha.1,kG hm (b:=b.x0) (fun u hu=>by have:u=b:=by simpa using hu.symm
                                                             subst this;exact Int.le_refl _) hlt]at this
    exact absurd this ha.2
   ·exact he
   ·have:=h b.x0
    rw[wD (Int.le_refl _) hb.1,kG hl (b:=a.x0) (fun u hu=>by have:u=a:=by simpa using hu.symm
                                                             subst this;exact Int.le_refl _) hlt]at this
    exact absurd this.symm hb.2
  have ec:a.column=b.column:=by
   have:=h a.x0
   rwa [wD (Int.le_refl _) ha.1,wD (by omega) (by omega)]at this
  have e1:a.x1=b.x1:=by
   rcases Int.lt_trichotomy a.x1 b.x1 with hlt |he |hlt
   ·have:=h a.x1;rw[wW (Int.le_refl _),wD (by omega) hlt]at this;exact absurd (this.trans ec.symm) (ab5 hl)
   ·exact he
   ·have:=h b.x1;rw[wW (s:=b) (Int.le_refl _),wD (by omega) hlt]at this;exact absurd (this.symm.trans ec) (ab5 hm)
  have e:a=b:=by cases a;cases b;simp only at e0 e1 ec;rw[e0,e1,ec]
  subst e;rw[QM (fJ hl) (fJ hm) fun x=>?_];by_cases hx:x < a.x1
  ·have bl:=kG (fJ hl) (b:=a.x1) (x:=x) (fun t ht=>by
    cases l with
    |nil=>cases ht
    |cons u l=>
     have:t=u:=(by simpa using ht.symm);subst this;exact hl.2.1) hx
   have bm:=kG (fJ hm) (b:=a.x1) (x:=x) (fun t ht=>by
    cases m with
    |nil=>cases ht
    |cons u m=>
     have:t=u:=(by simpa using ht.symm);subst this;exact hm.2.1) hx
   rw[bl,bm]
  ·have:=h x
   rwa [wW (by omega),wW (by omega)]at this
def Ht (x0 x1:Int) (c:List aL):List bg:=if c=[]then []else [⟨x0,x1,c⟩]
def FN (x0 x1:Int) (c:List aL):List bg->List bg
 |[]=>Ht x0 x1 c
 |s::l=>if s.column=c then FN x0 s.x1 c l else Ht x0 x1 c++FN s.x0 s.x1 s.column l
def DF:List bg->List bg
 |[]=>[]
 |s::l=>FN s.x0 s.x1 s.column l
def iK (l:List bg):List aj:=l.flatMap fun s=>aF s.x0 s.x1 s.column
theorem QN (x0 x1:Int) (c:List aL):iK (Ht x0 x1 c)=aF x0 x1 c:=by
 unfold Ht;split
 ·rename_i h;subst h;rfl
 ·simp[iK]
theorem OZ:∀ (l:List bg) (x0 x1:Int) (c:List aL),uf x0 x1 c l=iK (FN x0 x1 c l)
 |[],x0,x1,c=>(QN x0 x1 c).symm
 |s::l,x0,x1,c=>by
  simp only[uf,FN];split
  ·exact OZ l _ _ _
  ·rw[OZ l];unfold iK;rw[List.flatMap_append];congr 1;exact (QN x0 x1 c).symm
theorem mh (l:List bg):bD l=iK (DF l):=by
 cases l with
 |nil=>rfl
 |cons s l=>exact OZ l _ _ _
theorem KN (x0:Int):∀ (l:List bg) (x1:Int) (c:List aL),x0 < x1->(∀ s∈l.head?,x1=s.x0)->nQ l->∀ t∈(FN x0 x1 c l).head?,x0<=t.x0∧(t.x0=x0->t.column=c)
 |[],x1,c,_,_,_,t,ht=>by
  simp only[FN,Ht]at ht;split at ht
  ·cases ht
  ·have:t=⟨x0,x1,c⟩:=(by simpa using ht.symm);subst this;exact⟨Int.le_refl _,fun _=>rfl⟩
 |s::l,x1,c,hx,hc,hS,t,ht=>by
  have e:=hc s rfl;have hs:s.x0 < s.x1∧(∀ u∈l.head?,s.x1=u.x0)∧nQ l:=by
   cases l with
   |nil=>exact⟨hS,fun u hu=>(by cases hu),trivial⟩
   |cons v l=>exact⟨hS.1,fun u hu=>by have:u=v:=by simpa using hu.symm
                                      subst this;exact hS.2.1,hS.2.2⟩
  simp only[FN]at ht;split at ht
  ·exact KN x0 l s.x1 c (by omega) hs.2.1 hs.2.2 t ht
  ·unfold Ht at ht;split at ht
   ·rw[cu]at ht;have:=KN s.x0 l s.x1 s.column hs.1 hs.2.1 hs.2.2 t ht;exact⟨by omega,fun h=>by omega⟩
   ·have:t=⟨x0,x1,c⟩:=(by simpa using ht.symm);subst this;exact⟨Int.le_refl _,fun _=>rfl⟩
theorem ahf {s:bg} {l:List bg} (h1:s.x0 < s.x1) (h2:s.column≠[]) (h3:∀ t∈l.head?,s.x1<=t.x0∧(s.x1=t.x0->s.column≠t.column)) (h4:Runs l):Runs (s::l):=by
 cases l with
 |nil=>exact⟨h1,h2⟩
 |cons t l=>
  have:=h3 t rfl;exact⟨⟨h1,h2⟩,this.1,this.2,h4⟩
theorem KO:∀ (l:List bg) (x0 x1:Int) (c:List aL),x0 < x1->(∀ s∈l.head?,x1=s.x0)->nQ l->
 Runs (FN x0 x1 c l)∧∀ x,fI (FN x0 x1 c l) x=bif decide (x0<=x)&&decide (x < x1)then c else fI l x
 |[],x0,x1,c,hx,_,_=>by
  simp only[FN,Ht];split
  ·rename_i h;subst h;exact⟨trivial,fun x=>by simp[fI]⟩
  ·rename_i h;exact⟨⟨hx,h⟩,fun x=>rfl⟩
 |s::l,x0,x1,c,hx,hc,hS=>by
  have e:=hc s rfl;have hs:s.x0 < s.x1∧(∀ u∈l.head?,s.x1=u.x0)∧nQ l:=by
   cases l with
   |nil=>exact⟨hS,fun u hu=>(by cases hu),trivial⟩
   |cons v l=>exact⟨hS.1,fun u hu=>by have:u=v:=by simpa using hu.symm
                                      subst this;exact hS.2.1,hS.2.2⟩
  simp only[FN];split
  ·rename_i hcol;obtain⟨r1,r2⟩:=KO l x0 s.x1 c (by omega) hs.2.1 hs.2.2;refine⟨r1,fun x=>?_⟩;rw[r2,iT,hcol];by_cases h1:x0<=x<;>by_cases h2:x < x1<;>by_cases h3:s.x0<=x<;>by_cases h4:x < s.x1<;>simp[h1,h2,h3,h4]<;>omega
  ·rename_i hcol;obtain⟨r1,r2⟩:=KO l s.x0 s.x1 s.column hs.1 hs.2.1 hs.2.2;have hd:=KN s.x0 l s.x1 s.column hs.1 hs.2.1 hs.2.2;unfold Ht;split
   ·rename_i hn;subst hn;rw[cu];refine⟨r1,fun x=>?_⟩;rw[r2,iT];by_cases h1:x0<=x<;>by_cases h2:x < x1
    ·have h3:¬ s.x0<=x:=(by omega);simp only[h1,h2,h3,decide_true,decide_false,Bool.and_self,Bool.false_and,au,aA];have:=kG r1 (b:=s.x0) (x:=x) (fun t ht=>(hd t ht).1) (by omega);rw[r2]at this;simpa[h3]using this
    all_goals simp[h1,h2]
   ·rename_i hn;rw[List.singleton_append];refine⟨ahf hx hn (fun t ht=>?_) r1,fun x=>?_⟩
    ·obtain⟨d1,d2⟩:=hd t ht;refine⟨by show x1<=t.x0;omega,fun ht2 hcc=>?_⟩;have ht2:x1=t.x0:=ht2;rw[d2 (by omega)]at hcc;exact hcol hcc.symm
    ·rw[iT,r2,iT]
theorem oM {l:List bg} (h:nQ l):Runs (DF l)∧∀ x,fI (DF l) x=fI l x:=by
 cases l with
 |nil=>exact⟨trivial,fun _=>rfl⟩
 |cons s l=>
  have hs:s.x0 < s.x1∧(∀ u∈l.head?,s.x1=u.x0)∧nQ l:=by
   cases l with
   |nil=>exact⟨h,fun u hu=>(by cases hu),trivial⟩
   |cons v l=>exact⟨h.1,fun u hu=>by have:u=v:=by simpa using hu.symm
                                     subst this;exact h.2.1,h.2.2⟩
  obtain⟨r1,r2⟩:=KO l s.x0 s.x1 s.column hs.1 hs.2.1 hs.2.2;exact⟨r1,fun x=>by rw[iT];exact r2 x⟩
theorem Ch {l m:List bg} (hl:nQ l) (hm:nQ m) (h:∀ x,fI l x=fI m x):bD l=bD m:=by
 obtain⟨l1,l2⟩:=oM hl;obtain⟨m1,m2⟩:=oM hm;rw[mh,mh,QM l1 m1 fun x=>by rw[l2,m2,h]]
theorem UG (l m:List aj) (x:Int):dN (l++m) x=dN l x++dN m x:=by simp[dN]
theorem Ws (x0 x1:Int) (c:List aL) (x:Int):dN (aF x0 x1 c) x=bif decide (x0<=x)&&decide (x < x1)then c else []:=by
 unfold dN aF
 induction c with
 |nil=>simp
 |cons s c ih=>
  rw[bf,List.filter_cons];cases h:(decide (x0<=x)&&decide (x < x1))with
  |true=>rw[h]at ih;simp only[if_true,bf,ih,au]
  |false=>rw[h]at ih;simpa using ih
theorem MW:∀ {l:List bg},Runs l->∀ x,dN (iK l) x=fI l x
 |[],_,x=>rfl
 |s::l,h,x=>by
  have ih:=MW (fJ h) x;have hs:=iA h;show dN (aF s.x0 s.x1 s.column++iK l) x=_;rw[UG,Ws,ih,iT];cases hc:(decide (s.x0<=x)&&decide (x < s.x1))with
  |false=>rfl
  |true=>
   rw[aK,aM,aM]at hc;have:=kG (fJ h) (b:=s.x1) (x:=x) (fun t ht=>by
    cases l with
    |nil=>cases ht
    |cons u l=>
     have:t=u:=(by simpa using ht.symm);subst this;exact h.2.1) hc.2
   rw[this];simp
theorem Hu {l:List bg} (h:nQ l) (x:Int):dN (bD l) x=fI l x:=by
 obtain⟨h1,h2⟩:=oM h;rw[mh,MW h1,h2]
theorem Fa {l:List bg} (h:nQ l) (x y:Int):aV (bD l) x y=inS (fI l x) y:=by rw[<- Hr,Hu h]
theorem yX {α:Type} (f:Int->Int->α) (a b:Int) (l:List Int):gX f (a::b::l)=f a b::gX f (b::l):=rfl
theorem uh (g:Int->List aL):∀ (es:List Int),es.Pairwise (· < ·)->nQ (gX (fun a b=>(⟨a,b,g a⟩:bg)) es)
 |[],_=>trivial
 |[_],_=>trivial
 |[a,b],h=>by
  have h1:=(pairwise_cons.1 h).1 b (by simp);exact h1
 |a::b::c::l,h=>by
  have h1:=(pairwise_cons.1 h).1 b (by simp);exact⟨h1,rfl,uh g (b::c::l) (pairwise_cons.1 h).2⟩
theorem Hw (g:Int->List aL) (x:Int):∀ (es:List Int),(∀ e∈es,x < e)->fI (gX (fun a b=>(⟨a,b,g a⟩:bg)) es) x=[]
 |[],_=>rfl
 |[_],_=>rfl
 |a::b::l,h=>by
  have ha:=h a (by simp);rw[yX,iT,show (decide (a<=x)&&decide (x < b))=false by rw[Bool.and_eq_false_iff,bU];left;omega,aA];exact Hw g x (b::l) fun e he=>h e (bP _ he)
theorem Hy (g:Int->List aL) (x:Int):∀ (l:List Int) (a:Int),(a::l).Pairwise (· < ·)->a<=x->
 (∀ e∈a::l,e<=x->(∀ e'∈a::l,e'<=e∨x < e')->g e=g x)->((∀ e∈a::l,e<=x)->g x=[])->fI (gX (fun a b=>(⟨a,b,g a⟩:bg)) (a::l)) x=g x
 |[],a,_,hx,_,h2=>(h2 (fun e he=>by have:e=a:=by simpa using he
                                    subst this;exact hx)).symm
 |b::l,a,hp,hx,h1,h2=>by
  have hab:=(pairwise_cons.1 hp).1 b (by simp);rw[yX,iT];by_cases hb:x < b
  ·rw[show (decide (a<=x)&&decide (x < b))=true by simp[hx,hb],au];refine h1 a (by simp) hx fun e he=>?_;rcases aI.1 he with rfl |he
   ·exact .inl (Int.le_refl _)
   ·right;rcases aI.1 he with rfl |he
    ·exact hb
    ·have:=(pairwise_cons.1 (pairwise_cons.1 hp).2).1 e he;omega
  ·rw[show (decide (a<=x)&&decide (x < b))=false by simp[hb],aA];refine Hy g x l b (pairwise_cons.1 hp).2 (by omega) (fun e he hex hc=>h1 e (bP _ he) hex fun e' he'=>?_) fun hall=>h2 fun e he=>?_
   ·rcases aI.1 he' with rfl |he'
    ·left;have:=(pairwise_cons.1 hp).1 e he;omega
    ·exact hc e' he'
   ·rcases aI.1 he with rfl |he
    ·exact hx
    ·exact hall e he
theorem Hz (g:Int->List aL) (es:List Int) (hp:es.Pairwise (· < ·)) (x:Int)
 (h1:∀ e∈es,e<=x->(∀ e'∈es,e'<=e∨x < e')->g e=g x) (h2:(∀ e∈es,e<=x)->g x=[]) (h3:(∀ e∈es,x < e)->g x=[]):fI (gX (fun a b=>(⟨a,b,g a⟩:bg)) es) x=g x:=by
 cases es with
 |nil=>exact (h3 (by simp)).symm
 |cons a l=>
  by_cases hx:a<=x
  ·exact Hy g x l a hp hx h1 h2
  ·have hall:∀ e∈a::l,x < e:=by
    intro e he;rcases aI.1 he with rfl |he
    ·omega
    ·have:=(pairwise_cons.1 hp).1 e he;omega
   rw[Hw g x _ hall,h3 hall]
theorem zT {l:List aj} {z:Int}:z∈aR l↔∃ r∈l,z=r.x0∨z=r.x1:=by
 rw[aR,Dg,mem_flatMap];simp
theorem nN (l:List aj):(aR l).Pairwise (· < ·):=rR _
theorem Ci {l:List aj} {es:List Int} (hes:∀ r∈l,r.x0∈es∧r.x1∈es) {e x:Int} (hex:e<=x) (hc:∀ e'∈es,e'<=e∨x < e'):dN l e=dN l x:=by
 unfold dN;congr 1;refine List.filter_congr fun r hr=>?_;obtain⟨h0,h1⟩:=hes r hr;have:=hc _ h0;have:=hc _ h1;rw[bJ,aK,aK,aM,aM,aM,aM];omega
theorem pJ {l:List aj} {x:Int} (h:∀ r∈l,x < r.x0∨r.x1<=x):dN l x=[]:=by
 unfold dN;rw[List.map_eq_nil_iff,List.filter_eq_nil_iff];intro r hr;have:=h r hr;rw[aK,aM,aM];omega
theorem lW (l:List aj):nQ (bq l):=uh _ _ (nN l)
theorem nO (l:List aj) (x:Int):fI (bq l) x=bQ l x:=by
 have hes:∀ r∈l,r.x0∈aR l∧r.x1∈aR l:=fun r hr=>⟨zT.2 ⟨r,hr,.inl rfl⟩,zT.2 ⟨r,hr,.inr rfl⟩⟩;refine Hz (bQ l) (aR l) (nN l) x (fun e _ hex hc=>?_) (fun hall=>?_) (fun hall=>?_)
 ·unfold bQ;rw[Ci hes hex hc]
 ·unfold bQ;rw[pJ fun r hr=> .inr (hall _ (hes r hr).2)];rfl
 ·unfold bQ;rw[pJ fun r hr=> .inl (hall _ (hes r hr).1)];rfl
theorem aiD {c:List aL} (h:Can c):ZH c=c:=by
 obtain⟨h1,h2⟩:=OV h.2;exact jN h1 h h2
theorem BF {l:List bg} {r:aj}:r∈iK l↔∃ s∈l,∃ q∈s.column,r=⟨s.x0,q.from_,s.x1,q.to⟩:=by
 simp only[iK,aF,mem_flatMap,mem_map];constructor
 ·rintro⟨s,hs,q,hq,rfl⟩;exact⟨s,hs,q,hq,rfl⟩
 ·rintro⟨s,hs,q,hq,rfl⟩;exact⟨s,hs,q,hq,rfl⟩
theorem mq:∀ {l:List bg},Runs l->∀ s∈l,s.x0 < s.x1∧∀ x,s.x0<=x->x < s.x1->fI l x=s.column
 |[],_,s,hs=>by simp at hs
 |t::l,h,s,hs=>by
  rcases aI.1 hs with rfl |hs
  ·exact⟨(iA h).1,fun x h1 h2=>wD h1 h2⟩
  ·obtain⟨g1,g2⟩:=mq (fJ h) s hs;refine⟨g1,fun x h1 h2=>?_⟩;have:t.x1<=x:=by
    by_cases hlt:x < t.x1
    ·have hb:=kG (fJ h) (b:=t.x1) (x:=x) (fun u hu=>by
      cases l with
      |nil=>cases hu
      |cons v l=>
       have:u=v:=(by simpa using hu.symm);subst this;exact h.2.1) hlt
     rw[g2 x h1 h2]at hb;have hne:s.column≠[]:=by
      have:∀ {l:List bg},Runs l->∀ s∈l,s.column≠[]:=by
       intro l
       induction l with
       |nil=>intro _ s hs;simp at hs
       |cons a l ih=>
        intro h s hs;rcases aI.1 hs with rfl |hs
        ·exact (iA h).2
        ·exact ih (fJ h) s hs
      exact this (fJ h) s hs
     exact absurd hb hne
    ·omega
   rw[wW this,g2 x h1 h2]
theorem MX {S:List bg} (hS:nQ S) (hc:∀ x,Can (fI S x)) (hb:∀ x y,inS (fI S x) y=true->(0<=x∧x < 1048576)∧(0<=y∧y < 1048576)) (hl:(bD S).length<=200):rightL (bD S)=true:=by
 have hok:∀ r∈bD S,OkR r=true:=by
  intro r hr;obtain⟨r1,r2⟩:=oM hS;rw[mh,BF]at hr;obtain⟨s,hs,q,hq,rfl⟩:=hr;obtain⟨g1,g2⟩:=mq r1 s hs;have c0:=g2 s.x0 (Int.le_refl _) g1;have c1:=g2 (s.x1 - 1) (by omega) (by omega);rw[r2]at c0 c1;have hcan:=hc s.x0;rw[c0]at hcan;have hq1:q.from_ < q.to:=hcan.2 q hq;have b0:=hb s.x0 q.from_ (by rw[c0,jS];exact⟨q,hq,Int.le_refl _,hq1⟩);have b1:=hb (s.x1 - 1) (q.to - 1) (by rw[c1,jS];exact⟨q,hq,by omega,by omega⟩);simp only[OkR,aK,aM];omega
 have he:bD (bq (bD S))=bD S:=by
  refine Ch (lW _) hS fun x=>?_;rw[nO,bQ,Hu hS,aiD (hc x)]
 unfold rightL ofL;rw[aJ (all_eq_true.2 hok),aD (by omega),he,aD (by omega)];simp
theorem ahg {a:List aj} (h:rightL a=true):ofL a=(a,0):=by
 unfold rightL at h;rw[aK,aM,aM]at h;obtain⟨h1,h2⟩:=h;exact Prod.ext h2 h1
theorem dV {a:List aj} (h:rightL a=true):(∀ r∈a,OkR r=true)∧a.length<=200∧bD (bq a)=a:=by
 have h:=ahg h;unfold ofL at h;split at h
 ·rename_i hall;split at h
  ·simp at h
  ·split at h
   ·simp at h
   ·rename_i h200;injection h with h _;refine⟨all_eq_true.1 hall,?_,h⟩;rw[<- h];omega
 ·simp at h
theorem mV {a:List aj} (h:∀ r∈a,OkR r=true) {x y:Int} (hc:aV a x y=true):(0<=x∧x < 1048576)∧(0<=y∧y < 1048576):=by
 simp only[aV,any_eq_true,aK,aM]at hc;obtain⟨q,hq,h1,h2⟩:=hc;have:=h q hq;simp only[OkR,aK,aM]at this;omega
def ext (out:List aL) (p:aL):List aL:=
 match out.getLast? with
 |some q=>bif q.to==p.from_ then out.dropLast++[⟨q.from_,p.to⟩]else out++[p]
 |none=>[p]
def ysL (a b:List aL):List Int:=uH ((a++b).flatMap fun s=>[s.from_,s.to])
def oN (keep:Bool->Bool->Bool) (a b:List aL):List aL:=
 ((gX aL.mk (ysL a b)).filter fun p=>keep (inS a p.from_) (inS b p.from_)).foldl ext []
theorem UH (o:List aL) (q p:aL):ext (o++[q]) p=bif q.to==p.from_ then o++[⟨q.from_,p.to⟩]else o++[q]++[p]:=by simp[ext]
theorem aiE {out:List aL} {p:aL} (hc:Can out) (hp:OkS p) (hb:∀ o∈out,o.to<=p.from_):
 Can (ext out p)∧(∀ o∈ext out p,o.to<=p.to)∧∀ y,inS (ext out p) y=(inS out y || inS [p] y):=by
 have hp':p.from_ < p.to:=hp;rcases List.eq_nil_or_concat out with rfl |⟨o,q,rfl⟩
 ·refine⟨⟨by simp[ext],by simp[ext];exact hp⟩,by simp[ext],fun y=>by simp[ext,inS]⟩
 ·rw[List.concat_eq_append]at*;obtain⟨h1,h2⟩:=hc;rw[pairwise_append]at h1;obtain⟨p1,_,p3⟩:=h1;have hq:q.from_ < q.to:=h2 q (by simp);have hqp:q.to<=p.from_:=hb q (by simp);rw[UH];cases hj:q.to==p.from_ with
  |true=>
   have hj:=eq_of_beq hj;simp only[au];refine⟨⟨?_,?_⟩,?_,?_⟩
   ·rw[pairwise_append];refine⟨p1,by simp,fun a ha b hb'=>?_⟩;rw[aO]at hb';subst hb';exact p3 a ha q (by simp)
   ·intro a ha;rcases aX.1 ha with ha |ha
    ·exact h2 a (by simp[ha])
    ·rw[aO]at ha;subst ha;show q.from_ < p.to;omega
   ·intro a ha;rcases aX.1 ha with ha |ha
    ·have:=hb a (by simp[ha]);omega
    ·rw[aO]at ha;subst ha;exact Int.le_refl _
   ·intro y;rw[oK,oK,Bool.or_assoc];congr 1;simp only[kE,wC,Bool.or_false];rw[bJ];simp only[aK,Bool.or_eq_true,aM];omega
  |false=>
   rw[beq_eq_false_iff_ne]at hj;simp only[aA];refine⟨⟨?_,?_⟩,?_,?_⟩
   ·rw[pairwise_append];refine⟨?_,by simp,fun a ha b hb'=>?_⟩
    ·rw[pairwise_append];exact⟨p1,by simp,p3⟩
    ·rw[aO]at hb';subst hb';rcases aX.1 ha with ha |ha
     ·have:=p3 a ha q (by simp);omega
     ·rw[aO]at ha;subst ha;omega
   ·intro a ha;rcases aX.1 ha with ha |ha
    ·exact h2 a ha
    ·rw[aO]at ha;subst ha;exact hp
   ·intro a ha;rcases aX.1 ha with ha |ha
    ·have:=hb a ha;omega
    ·rw[aO]at ha;subst ha;exact Int.le_refl _
   ·intro y;rw[oK]
theorem O1:∀ (l out:List aL),Can out->(∀ s∈l,OkS s)->l.Pairwise (fun x y=>x.to<=y.from_)->(∀ o∈out,∀ s∈l,o.to<=s.from_)->Can (l.foldl ext out)∧∀ y,inS (l.foldl ext out) y=(inS out y || inS l y)
 |[],out,hc,_,_,_=>⟨hc,fun y=>by simp[wC]⟩
 |s::l,out,hc,hv,hp,hb=>by
  rw[pairwise_cons]at hp;obtain⟨m1,m2,m3⟩:=aiE hc (hv s (by simp)) (fun o ho=>hb o ho s (by simp));obtain⟨f1,f2⟩:=O1 l (ext out s) m1 (fun t ht=>hv t (by simp[ht])) hp.2 (fun o ho t ht=>Int.le_trans (m2 o ho) (hp.1 t ht));refine⟨f1,fun y=>?_⟩;rw[foldl_cons,f2,m3,Bool.or_assoc,<- oK];rfl
theorem ab6:∀ (es:List Int),es.Pairwise (· < ·)->(∀ p∈gX aL.mk es,OkS p∧p.from_∈es∧p.to∈es∧∀ e∈es,e<=p.from_∨p.to<=e)∧(gX aL.mk es).Pairwise fun x y=>x.to<=y.from_
 |[],_=>⟨by simp[gX],by simp[gX]⟩
 |[_],_=>⟨by simp[gX],by simp[gX]⟩
 |a::b::l,h=>by
  obtain⟨h1,h2⟩:=pairwise_cons.1 h;obtain⟨i1,i2⟩:=ab6 (b::l) h2;have hab:=h1 b (by simp);rw[yX];refine⟨fun p hp=>?_,?_⟩
  ·rcases aI.1 hp with rfl |hp
   ·refine⟨hab,by simp,by simp,fun e he=>?_⟩;rcases aI.1 he with rfl |he
    ·exact .inl (Int.le_refl _)
    ·right;rcases aI.1 he with rfl |he
     ·exact Int.le_refl _
     ·have:=(pairwise_cons.1 h2).1 e he;show b<=e;omega
   ·obtain⟨g1,g2,g3,g4⟩:=i1 p hp;refine⟨g1,bP _ g2,bP _ g3,fun e he=>?_⟩;rcases aI.1 he with rfl |he
    ·left;have:=h1 _ g2;omega
    ·exact g4 e he
  ·rw[pairwise_cons];refine⟨fun p hp=>?_,i2⟩;obtain⟨_,g2,_,_⟩:=i1 p hp;show b<=p.from_;rcases aI.1 g2 with e |g2
   ·omega
   ·have:=(pairwise_cons.1 h2).1 _ g2;omega
theorem QO:∀ (es:List Int) (y:Int),(∃ e∈es,e<=y)->(∃ e∈es,y < e)->es.Pairwise (· < ·)->∃ p∈gX aL.mk es,p.from_<=y∧y < p.to
 |[],y,⟨e,he,_⟩,_,_=>by simp at he
 |[a],y,⟨e,he,h1⟩,⟨e',he',h2⟩,_=>by
  have:e=a:=by simpa using he
  have:e'=a:=by simpa using he'
  omega
 |a::b::l,y,h1,h2,hp=>by
  obtain⟨g1,g2⟩:=pairwise_cons.1 hp;rw[yX];by_cases hb:y < b
  ·refine⟨⟨a,b⟩,by simp,?_,hb⟩;obtain⟨e,he,hey⟩:=h1;show a<=y;rcases aI.1 he with rfl |he
   ·exact hey
   ·have:=g1 e he;omega
  ·obtain⟨e',he',h2'⟩:=h2;obtain⟨p,hp,q⟩:=QO (b::l) y ⟨b,by simp,by omega⟩ ⟨e',(by
    rcases aI.1 he' with rfl |he'
    ·have:=g1 b (by simp);omega
    ·exact he'),h2'⟩ g2
   exact⟨p,bP _ hp,q⟩
theorem Yg {c:List aL} {es:List Int} (hes:∀ s∈c,s.from_∈es∧s.to∈es) {e y:Int} (hey:e<=y) (hc:∀ e'∈es,e'<=e∨y < e'):inS c e=inS c y:=by
 rw[bJ,jS,jS];constructor
 ·rintro⟨s,hs,h1,h2⟩;have:=hc _ (hes s hs).1;have:=hc _ (hes s hs).2;exact⟨s,hs,by omega,by omega⟩
 ·rintro⟨s,hs,h1,h2⟩;have:=hc _ (hes s hs).1;have:=hc _ (hes s hs).2;exact⟨s,hs,by omega,by omega⟩
theorem BG {keep:Bool->Bool->Bool} (hk:keep false false=false) (a b:List aL):Can (oN keep a b)∧∀ y,inS (oN keep a b) y=keep (inS a y) (inS b y):=by
 have hstr:(ysL a b).Pairwise (· < ·):=rR _;have hmem:∀ z,z∈ysL a b↔∃ s,(s∈a∨s∈b)∧(z=s.from_∨z=s.to):=by
  intro z;rw[ysL,Dg,mem_flatMap];simp
 have ha:∀ s∈a,s.from_∈ysL a b∧s.to∈ysL a b:=fun s hs=>⟨(hmem _).2 ⟨s,.inl hs,.inl rfl⟩,(hmem _).2 ⟨s,.inl hs,.inr rfl⟩⟩;have hb:∀ s∈b,s.from_∈ysL a b∧s.to∈ysL a b:=fun s hs=>⟨(hmem _).2 ⟨s,.inr hs,.inl rfl⟩,(hmem _).2 ⟨s,.inr hs,.inr rfl⟩⟩;obtain⟨p1,p2⟩:=ab6 (ysL a b) hstr;obtain⟨f1,f2⟩:=O1 ((gX aL.mk (ysL a b)).filter fun p=>keep (inS a p.from_) (inS b p.from_)) [] tX (fun s hs=>(p1 s (mem_filter.1 hs).1).1) (p2.filter _) (by simp);refine⟨f1,fun y=>?_⟩;rw[oN,f2,wC,Bool.false_or];by_cases hin:(∃ e∈ysL a b,e<=y)∧(∃ e∈ysL a b,y < e)
 ·obtain⟨p,hp,h1,h2⟩:=QO _ y hin.1 hin.2 hstr;obtain⟨_,_,_,q4⟩:=p1 p hp;have hc:∀ e'∈ysL a b,e'<=p.from_∨y < e':=fun e' he'=>by rcases q4 e' he' with h |h<;>omega
  rw[<- Yg ha h1 hc,<- Yg hb h1 hc,bJ,jS];constructor
  ·rintro⟨s,hs,g1,g2⟩;rw[mem_filter]at hs;obtain⟨_,r2,r3,r4⟩:=p1 s hs.1;have:s.from_=p.from_:=by
    have e1:=q4 _ r2;have e2:=r4 _ (p1 p hp).2.1;omega
   rw[<- this];exact hs.2
  ·intro hkk;exact⟨p,mem_filter.2 ⟨hp,hkk⟩,h1,h2⟩
 ·have out:∀ c:List aL,(∀ s∈c,s.from_∈ysL a b∧s.to∈ysL a b)->inS c y=false:=by
   intro c hc;cases hy:inS c y with
   |false=>rfl
   |true=>
    obtain⟨s,hs,g1,g2⟩:=(jS _ _).1 hy;exact absurd ⟨⟨_,(hc s hs).1,g1⟩,⟨_,(hc s hs).2,g2⟩⟩ hin
  rw[out a ha,out b hb,hk];refine out _ fun s hs=>?_;obtain⟨_,r2,r3,_⟩:=p1 s (mem_filter.1 hs).1;exact⟨r2,r3⟩
def MZ (keep:Bool->Bool->Bool) (a b:List aj):List bg:=
 gX (fun x x'=>(⟨x,x',oN keep (bQ a x) (bQ b x)⟩:bg)) (aR (a++b))
theorem Jz {keep:Bool->Bool->Bool} (hk:keep false false=false) (a b:List aj) (x:Int):fI (MZ keep a b) x=oN keep (bQ a x) (bQ b x):=by
 have hes:∀ r∈a++b,r.x0∈aR (a++b)∧r.x1∈aR (a++b):=fun r hr=>⟨zT.2 ⟨r,hr,.inl rfl⟩,zT.2 ⟨r,hr,.inr rfl⟩⟩;have ha:∀ r∈a,r.x0∈aR (a++b)∧r.x1∈aR (a++b):=fun r hr=>hes r (List.mem_append_left _ hr);have hb:∀ r∈b,r.x0∈aR (a++b)∧r.x1∈aR (a++b):=fun r hr=>hes r (List.mem_append_right _ hr);have hnil:oN keep [] []=[]:=rfl;have e0:ZH []=[]:=rfl;refine Hz (fun x=>oN keep (bQ a x) (bQ b x)) (aR (a++b)) (nN _) x (fun e _ hex hc=>?_) (fun hall=>?_) (fun hall=>?_)
 ·unfold bQ;rw[Ci ha hex hc,Ci hb hex hc]
 ·unfold bQ;rw[pJ fun r hr=> .inr (hall _ (ha r hr).2),pJ fun r hr=> .inr (hall _ (hb r hr).2),e0,hnil]
 ·unfold bQ;rw[pJ fun r hr=> .inl (hall _ (ha r hr).1),pJ fun r hr=> .inl (hall _ (hb r hr).1),e0,hnil]
theorem ZK (l:List aL):(l.flatMap fun r=>[r.from_,r.to]).length=2*l.length:=by
 induction l with
 |nil=>rfl
 |cons x l ih=>simp only[List.flatMap_cons,aZ,ih,bH,length_nil];omega
theorem aeK (out:List aL) (p:aL):(ext out p).length<=out.length+1:=by
 unfold ext;cases out.getLast? with
 |none=>simp
 |some q=>simp only;cases q.to==p.from_<;>simp<;>omega
theorem aeL (a b:List aL):(ysL a b).length<=2*(a.length+b.length):=by
 have h:=jk (gK (fun a b=>decide (a < b)) ((a++b).flatMap fun r=>[r.from_,r.to]));rw[dD,ZK,aZ]at h;exact h
theorem Wt (keep:Bool->Bool->Bool) (a b:List aL):(oN keep a b).length<=2*(a.length+b.length):=by
 have gen:∀ (ys out:List aL),(ys.foldl ext out).length<=out.length+ys.length:=by
  intro ys
  induction ys with
  |nil=>intro out;simp
  |cons y ys ih=>
   intro out;simp only[foldl_cons,bH];have:=ih (ext out y);have:=aeK out y;omega
 have h:=gen ((gX aL.mk (ysL a b)).filter fun p=>keep (inS a p.from_) (inS b p.from_)) [];have h2:=length_filter_le (fun p=>keep (inS a p.from_) (inS b p.from_)) (gX aL.mk (ysL a b));have h3:=(jO aL.mk (ysL a b)).1;have h4:=aeL a b;simp only[length_nil]at h;unfold oN;omega
def ak6 (r:aj):Int:=(r.x1 - r.x0)*(r.y1 - r.y0)
def sumA (l:List aj):Int:=(l.map ak6).sum
def iC (r:aj) (x y:Int):Bool:=(decide (r.x0<=x)&&decide (x < r.x1))&&(decide (r.y0<=y)&&decide (y < r.y1))
theorem JA:∀ (l:List Int) (x:Int),(l++[x]).sum=l.sum+x
 |[],x=>by simp
 |a::l,x=>by rw[cons_append,List.sum_cons,List.sum_cons,JA l x];omega
def ak7 (p q:aj):Bool:=decide (max p.x0 q.x0 < min p.x1 q.x1)&&decide (max p.y0 q.y0 < min p.y1 q.y1)
def meetL (a b:List aj):Bool:=a.any fun p=>b.any fun q=>ak7 p q
theorem ab7 {S:List bg} {t:List aj} (hS:nQ S) (ht:∀ r∈t,OkR r=true) (h1:∀ x,Can (fI S x)) (h2:∀ x y,inS (fI S x) y=aV t x y):bD S=bD (bq t):=by
 refine Ch hS (lW t) fun x=>?_;obtain⟨c1,c2⟩:=eu ht x;rw[nO];exact jN (h1 x) c1 fun y=>by rw[h2,c2]
theorem ajH (l:List aj):(ofL l).1.length<=200:=by
 unfold ofL;split
 ·split
  ·simp
  ·split
   ·simp
   ·show (bD (bq l)).length<=200;omega
 ·simp
abbrev ltY (a b:aj):Bool:=decide (a.y0 < b.y0)
theorem Sz:Go.Sort.SWO ltY where
 irrefl x:=by simp[ltY]
 trans x y z h1 h2:=by simp only[ltY,aM]at *;omega
 ntrans x y z h1 h2:=by simp only[ltY,bU]at *;omega
instance:Inhabited aj:=⟨aj.mk 0 0 0 0⟩
theorem ahh (n:Nat) (rc:List aj->Int->Int->Int->((aj×aj×Unit)->Option Int)->Option (List aj)) (φ:(aj×aj×Unit)->Option Int) (l:List aj) (a b d:Int):iV n rc l a b d φ=jI (fun x y=>φ (x,y,())) (fun r=>decide (r < 0)) bO bT n (fun l a b d=>rc l a b d φ) l a b d:=by kernel_rfl
theorem Yh (n:Nat) (φ:(aj×aj×Unit)->Option Int):∀ m l a b d,eO n m l a b d φ=iQ (fun x y=>φ (x,y,())) (fun r=>decide (r < 0)) bO bT n m l a b d
 | 0,l,a,b,d=>rfl
 |m+1,l,a,b,d=>by
  have e:(fun l a b d=>eO n m l a b d φ)=iQ (fun x y=>φ (x,y,())) (fun r=>decide (r < 0)) bO bT n m:=by
   funext l a b d;exact Yh n φ m l a b d
  show iV n (eO n m) l a b d φ=jI (fun x y=>φ (x,y,())) (fun r=>decide (r < 0)) bO bT n (iQ (fun x y=>φ (x,y,())) (fun r=>decide (r < 0)) bO bT n m) l a b d;rw[<- e];exact ahh n (eO n m) φ l a b d
theorem JI {n:Nat} {l:List aj} {φ:(aj×aj×Unit)->Option Int} (f:aj->aj->Int) (hφ:∀ x y,φ (x,y,())=some (f x y)) (hf:∀ x y,decide (f x y < 0)=ltY x y) (hl:l.length < 1099511627776) (hn:l.length < n):pE n l φ=some (zI ltY l):=by
 unfold pE mO;rw[oV (by omega),BB (by omega)];simp only[ah,aC,au,Yh];rw[zJ (lt:=ltY) Sz (f:=f) (q:=fun r=>decide (r < 0)) hφ hf aiy aiz (by omega) hn hn];rfl
def M0 (r:aj):aL:=⟨r.y0,r.y1⟩
theorem ab8 (x0 x1:Int) (c:List aL):(aF x0 x1 c).map M0=c:=by
 unfold aF;rw[List.map_map];exact List.map_id'' (fun s=>rfl) c
theorem bW (x0 x1:Int) (c:List aL):(aF x0 x1 c).length=c.length:=by simp[aF]
theorem UI {x0 x1:Int} {c:List aL} {i:Nat} (h:i < c.length):at? (aF x0 x1 c) (i:Int)=some ⟨x0,c[i].from_,x1,c[i].to⟩:=by
 rw[aY (by rw[bW];exact h)];simp[aF]
theorem Yi {x0 x1:Int}:∀ {L:List aj},(∀ r∈L,r.x0=x0∧r.x1=x1)->L=aF x0 x1 (L.map M0)
 |[],_=>rfl
 |r::L,h=>by
  have h1:=h r mem_cons_self;have h2:=Yi (L:=L) fun q hq=>h q (bP _ hq);show r::L=⟨x0,r.y0,x1,r.y1⟩::aF x0 x1 (L.map M0);rw[<- h2];obtain⟨a,b,c,d⟩:=r;obtain⟨rfl,rfl⟩:=h1;rfl
def Fb (l:List aj) (x0 x1:Int):List aL:=(l.filter fun r=>decide (r.x0<=x0)&&decide (x1<=r.x1)).map M0
theorem UJ (s t:bg) (h:s.column≠t.column):∀ (S:List bg) (x0 x1:Int) (c:List aL),uf x0 x1 c (S++[t,s])=uf x0 x1 c (S++[t])++aF s.x0 s.x1 s.column
 |[],x0,x1,c=>by
  simp only[cu,uf];split
  ·rename_i e;rw[aD (fun h'=>h (h'.trans e.symm))]
  ·rw[aQ]
 |a::S,x0,x1,c=>by
  simp only[cons_append,uf];split
  ·exact UJ s t h S _ _ _
  ·rw[UJ s t h S,aQ]
theorem O3 (s t:bg) (h:s.column=t.column):∀ (S:List bg) (x0 x1:Int) (c:List aL),∃ pre x',uf x0 x1 c (S++[t])=pre++aF x' t.x1 t.column∧uf x0 x1 c (S++[t,s])=pre++aF x' s.x1 t.column
 |[],x0,x1,c=>by
  simp only[cu,uf];split
  ·rename_i e;refine⟨[],x0,by rw[e];rfl,?_⟩;rw[aJ (h.trans e),e];rfl
  ·exact⟨aF x0 x1 c,t.x0,rfl,rfl⟩
 |a::S,x0,x1,c=>by
  simp only[cons_append,uf];split
  ·exact O3 s t h S _ _ _
  ·obtain⟨pre,x',h1,h2⟩:=O3 s t h S a.x0 a.x1 a.column;exact⟨aF x0 x1 c++pre,x',by rw[h1,aQ],by rw[h2,aQ]⟩
theorem UK (s t:bg) (h:s.column≠t.column) (S:List bg):bD (S++[t,s])=bD (S++[t])++aF s.x0 s.x1 s.column:=by
 cases S with
 |nil=>simp only[cu,bD,uf,aD h]
 |cons a S=>exact UJ s t h S _ _ _
theorem QR (s t:bg) (h:s.column=t.column) (S:List bg):∃ pre x',bD (S++[t])=pre++aF x' t.x1 t.column∧bD (S++[t,s])=pre++aF x' s.x1 t.column:=by
 cases S with
 |nil=>exact⟨[],t.x0,rfl,by simp only[cu,bD,uf,aJ h]⟩
 |cons a S=>exact O3 s t h S _ _ _
def QS (P:List bg) (i:Nat):List aj:=match (P.take i).getLast? with
 |some s=>aF s.x0 s.x1 s.column
 |none=>[]
def unq (s:bK):aL:=⟨s.from_,s.to⟩
def cS (c:List bK):List aL:=c.map unq
def tS (s:bZ):bg:=⟨s.x0,s.x1,cS s.column⟩
def DI (d:Int) (c:List aL):List bK:=(c.filter fun s=>decide (s.from_+d < s.to - d)).map fun s=>⟨s.from_+d,s.to - d⟩
theorem aiF (d:Int) (c:List aL):cS (DI d c)=(c.filter fun s=>decide (s.from_+d < s.to - d)).map fun s=>⟨s.from_+d,s.to - d⟩:=by simp[cS,DI,unq,Function.comp_def]
theorem ab9 {d:Int} (hd:0<=d) {c:List aL} (h:Can c):Can (cS (DI d c)):=by
 rw[aiF];refine⟨?_,fun s hs=>?_⟩
 ·rw[List.pairwise_map];refine (h.1.filter _).imp fun {a b} hab=>?_;show a.to - d < b.from_+d;omega
 ·obtain⟨t,ht,rfl⟩:=mem_map.1 hs;have:=(mem_filter.1 ht).2;simpa using this
theorem agu {d:Int} (hd:0<=d) {c:List aL} (h:Can c) (y:Int):inS (cS (DI d c)) y=true↔∀ z,y - d<=z->z<=y+d->inS c z=true:=by
 rw[aiF,jS];constructor
 ·rintro⟨s,hs,h1,h2⟩ z hz1 hz2;obtain⟨t,ht,rfl⟩:=mem_map.1 hs;have ht':=(mem_filter.1 ht).1;simp only at h1 h2;exact (jS c z).2 ⟨t,ht',by omega,by omega⟩
 ·intro hall;obtain⟨t,ht,h1,h2⟩:=(jS c (y - d)).1 (hall (y - d) (by omega) (by omega));by_cases hto:t.to<=y+d
  ·exfalso;obtain⟨u,hu,g1,g2⟩:=(jS c t.to).1 (hall t.to (by omega) hto);have ot:=h.2 t ht;obtain⟨i,hi,rfl⟩:=mem_iff_getElem.1 ht;obtain⟨j,hj,rfl⟩:=mem_iff_getElem.1 hu;have pw:=List.pairwise_iff_getElem.1 h.1;rcases Nat.lt_trichotomy i j with e |e |e
   ·have:=pw i j hi hj e;omega
   ·subst e;omega
   ·have:=pw j i hj hi e;omega
  ·refine⟨⟨t.from_+d,t.to - d⟩,mem_map.2 ⟨t,mem_filter.2 ⟨ht,?_⟩,rfl⟩,?_,?_⟩
   ·simp;omega
   ·show t.from_+d<=y;omega
   ·show y < t.to - d;omega
def O4 (a b:List bK):List bK:=a.flatMap fun x=>(b.filter fun y=>decide (max x.from_ y.from_ < min x.to y.to)).map fun y=>⟨max x.from_ y.from_,min x.to y.to⟩
theorem M4 {a b:List bK} {s:bK}:s∈O4 a b↔∃ x∈a,∃ y∈b,max x.from_ y.from_ < min x.to y.to∧s=⟨max x.from_ y.from_,min x.to y.to⟩:=by
 simp only[O4,mem_flatMap,mem_map,mem_filter,aM];constructor
 ·rintro⟨x,hx,y,⟨hy,h⟩,rfl⟩;exact⟨x,hx,y,hy,h,rfl⟩
 ·rintro⟨x,hx,y,hy,h,rfl⟩;exact⟨x,hx,y,⟨hy,h⟩,rfl⟩
theorem aeM (c:List bK) (y:Int):inS (cS c) y=true↔∃ s∈c,s.from_<=y∧y < s.to:=by
 rw[jS];constructor
 ·rintro⟨s,hs,h⟩;obtain⟨t,ht,rfl⟩:=mem_map.1 hs;exact⟨t,ht,h⟩
 ·rintro⟨s,hs,h⟩;exact⟨unq s,mem_map.2 ⟨s,hs,rfl⟩,h⟩
theorem aiG (c:List bK):Can (cS c)↔c.Pairwise (fun a b=>a.to < b.from_)∧∀ s∈c,s.from_ < s.to:=by
 unfold Can cS;rw[List.pairwise_map];constructor
 ·rintro⟨h1,h2⟩;exact⟨h1,fun s hs=>h2 _ (mem_map.2 ⟨s,hs,rfl⟩)⟩
 ·rintro⟨h1,h2⟩;exact⟨h1,fun s hs=>by obtain⟨t,ht,rfl⟩:=mem_map.1 hs;exact h2 t ht⟩
theorem acd {a b:List bK} (ha:Can (cS a)) (hb:Can (cS b)):Can (cS (O4 a b)):=by
 rw[aiG]at*;refine⟨?_,fun s hs=>?_⟩
 ·unfold O4;rw[List.pairwise_flatMap];refine⟨fun x _=>?_,ha.1.imp fun {x x'} hx=>?_⟩
  ·rw[List.pairwise_map];refine (hb.1.filter _).imp fun {y y'} hy=>?_;show min x.to y.to < max x.from_ y'.from_;omega
  ·intro p hp q hq;obtain⟨y,_,rfl⟩:=mem_map.1 hp;obtain⟨y',_,rfl⟩:=mem_map.1 hq;show min x.to y.to < max x'.from_ y'.from_;omega
 ·obtain⟨x,_,y,_,h,rfl⟩:=M4.1 hs;exact h
theorem ajI (a b:List bK) (y:Int):inS (cS (O4 a b)) y=(inS (cS a) y&&inS (cS b) y):=by
 rw[bJ,aK,aeM,aeM,aeM];constructor
 ·rintro⟨s,hs,h1,h2⟩;obtain⟨p,hp,q,hq,_,rfl⟩:=M4.1 hs;simp only at h1 h2;exact⟨⟨p,hp,by omega,by omega⟩,⟨q,hq,by omega,by omega⟩⟩
 ·rintro⟨⟨p,hp,h1,h2⟩,⟨q,hq,h3,h4⟩⟩;exact⟨_,M4.2 ⟨p,hp,q,hq,by omega,rfl⟩,by show max p.from_ q.from_<=y;omega,by show y < min p.to q.to;omega⟩
def KP (F:List Int) (c:List bK):Prop:=Can (cS c)∧∀ s∈c,s.from_∈F
theorem O5 {α:Type} [DecidableEq α]:∀ {l m:List α},l.Pairwise (· ≠ ·)->(∀ x∈l,x∈m)->l.length<=m.length
 |[],_,_,_=>by simp
 |a::l,m,h,hm=>by
  have h1:=pairwise_cons.1 h;have:=O5 (l:=l) (m:=m.erase a) h1.2 fun x hx=>(List.mem_erase_of_ne (fun e=>h1.1 x hx e.symm)).2 (hm x (bP _ hx));have e:=List.length_erase_of_mem (hm a mem_cons_self);have p:=List.length_pos_of_mem (hm a mem_cons_self);rw[bH];omega
theorem UL {F:List Int} {c:List bK} (h:KP F c):c.length<=F.length:=by
 obtain⟨h1,h2⟩:=h;rw[aiG]at h1;have:=O5 (l:=c.map (·.from_)) (m:=F) (by
  rw[List.pairwise_map];refine (List.Pairwise.and_mem.1 h1.1).imp fun {a b} hab=>?_;have:=h1.2 a hab.1;have:=hab.2.2;omega) (fun x hx=>by obtain⟨s,hs,rfl⟩:=mem_map.1 hx;exact h2 s hs)
 simpa using this
theorem Yj {F:List Int} {a b:List bK} (ha:KP F a) (hb:KP F b):KP F (O4 a b):=by
 refine⟨acd ha.1 hb.1,fun s hs=>?_⟩;obtain⟨x,hx,y,hy,_,rfl⟩:=M4.1 hs;show max x.from_ y.from_∈F;have h1:=ha.2 x hx;have h2:=hb.2 y hy;rcases Int.le_total x.from_ y.from_ with h |h
 ·rw[Int.max_eq_right h];exact h2
 ·rw[Int.max_eq_left h];exact h1
def kW (x d:Int):List bZ->Int->Bool->Bool->List bK->Int×Bool×List bK
 |[],nx,gap,_,out=>(nx,gap,out)
 |s::l,nx,gap,first,out=>
  bif gap || (decide (s.x1<=nx) || decide (s.x0>x+d))then kW x d l nx gap first out
  else bif decide (s.x0>nx)then kW x d l nx true first out
  else bif first then kW x d l s.x1 gap false s.column else kW x d l s.x1 gap false (O4 out s.column)
def KQ (l:List bZ) (x d:Int):List bK:=
 bif (kW x d l (x - d) false true []).2.1 || decide ((kW x d l (x - d) false true []).1<=x+d)then []else (kW x d l (x - d) false true []).2.2
def ZL (x d:Int) (r:Int×Bool×List bK):List bK:=bif r.2.1 || decide (r.1<=x+d)then []else r.2.2
theorem ajJ (l:List bZ) (x d:Int):KQ l x d=ZL x d (kW x d l (x - d) false true []):=rfl
theorem Yk (x d:Int):∀ (l:List bZ) (nx:Int) (f:Bool) (out:List bK),(kW x d l nx true f out).2.1=true
 |[],_,_,_=>rfl
 |s::l,nx,f,out=>by
  simp only[kW,Bool.true_or,au];exact Yk x d l nx f out
def ace (l:List bZ):Prop:=l.Pairwise (fun s t=>s.x1<=t.x0)∧∀ s∈l,s.x0 < s.x1∧Can (cS s.column)
theorem aeN {s:bZ} {l:List bZ} (h:ace (s::l)):ace l:=⟨(pairwise_cons.1 h.1).2,fun t ht=>h.2 t (bP _ ht)⟩
def kT (l:List bZ) (x:Int):List aL:=fI (l.map tS) x
theorem Yl {s:bZ} {l:List bZ} {x:Int} (h1:s.x0<=x) (h2:x < s.x1):kT (s::l) x=cS s.column:=by simp[kT,fI,tS,h1,h2]
theorem Fe {s:bZ} {l:List bZ} {x:Int} (h:x < s.x0∨s.x1<=x):kT (s::l) x=kT l x:=by
 have:(decide (s.x0<=x)&&decide (x < s.x1))=false:=by rw[Bool.and_eq_false_iff];simp;omega
 simp[kT,fI,tS,this]
theorem HV:∀ {l:List bZ} {x:Int},(∀ s∈l,x < s.x0∨s.x1<=x)->kT l x=[]
 |[],_,_=>rfl
 |s::l,x,h=>by
  rw[Fe (h s mem_cons_self)];exact HV fun t ht=>h t (bP _ ht)
theorem KR (x d:Int):∀ (l:List bZ),ace l->∀ (nx:Int) (first:Bool) (out:List bK),
 (first=true->nx<=x+d)->(first=false->Can (cS out)∧∀ s∈l,nx<=s.x0)->
 Can (cS (ZL x d (kW x d l nx false first out)))∧
 ∀ y,inS (cS (ZL x d (kW x d l nx false first out))) y=true↔(first=false->inS (cS out) y=true)∧∀ z,nx<=z->z<=x+d->inS (kT l z) y=true
 |[],_,nx,first,out,h1,h2=>by
  have e0:kW x d [] nx false first out=(nx,false,out):=rfl
  rw[e0];have e1:ZL x d (nx,false,out)=bif decide (nx<=x+d)then []else out:=by simp[ZL]
  rw[e1];by_cases hn:nx<=x+d
  ·have:decide (nx<=x+d)=true:=(by simpa using hn);simp only[this,au];refine⟨tX,fun y=>⟨fun h=>by simp[cS,inS]at h,fun h=>?_⟩⟩;have:=h.2 nx (Int.le_refl _) hn;simp[kT,fI,inS]at this
  ·have:decide (nx<=x+d)=false:=(by simpa using hn);simp only[this,aA];cases first with
   |true=>exact absurd (h1 rfl) hn
   |false=>
    refine⟨(h2 rfl).1,fun y=>⟨fun h=>⟨fun _=>h,fun z hz1 hz2=>by omega⟩,fun h=>h.1 rfl⟩⟩
 |s::l,hs,nx,first,out,h1,h2=>by
  have hl:=aeN hs;obtain⟨hs0,hsc⟩:=hs.2 s mem_cons_self;have hb:=(pairwise_cons.1 hs.1).1;simp only[kW,Bool.false_or];by_cases c1:s.x1<=nx∨s.x0>x+d
  ·have e:(decide (s.x1<=nx) || decide (s.x0>x+d))=true:=(by simpa using c1);simp only[e,au];obtain⟨g1,g2⟩:=KR x d l hl nx first out h1 fun hf=>⟨(h2 hf).1,fun t ht=>(h2 hf).2 t (bP _ ht)⟩
   refine⟨g1,fun y=>?_⟩;rw[g2];have:∀ z,nx<=z->z<=x+d->kT (s::l) z=kT l z:=fun z hz1 hz2=>Fe (by omega);constructor
   ·rintro⟨a,b⟩;exact⟨a,fun z hz1 hz2=>by rw[this z hz1 hz2];exact b z hz1 hz2⟩
   ·rintro⟨a,b⟩;exact⟨a,fun z hz1 hz2=>by rw[<- this z hz1 hz2];exact b z hz1 hz2⟩
  ·have e:(decide (s.x1<=nx) || decide (s.x0>x+d))=false:=(by rw[Bool.or_eq_false_iff,bU,bU];omega);simp only[e,aA];by_cases c2:s.x0>nx
   ·have e2:decide (s.x0>nx)=true:=(by simpa using c2);simp only[e2,au];have wn:ZL x d (kW x d l nx true first out)=[]:=by
     unfold ZL;rw[Yk];rfl
    rw[wn];refine⟨tX,fun y=>⟨fun h=>by simp[cS,inS]at h,fun h=>?_⟩⟩;have:=h.2 nx (Int.le_refl _) (by omega);rw[HV (fun t ht=>?_)]at this
    ·simp[inS]at this
    ·rcases aI.1 ht with rfl |ht
     ·left;omega
     ·left;have:=hb t ht;omega
   ·have e2:decide (s.x0>nx)=false:=(by simpa using c2);simp only[e2,aA]
    have key:∀ out',Can (cS out')->Can (cS (ZL x d (kW x d l s.x1 false false out')))∧
     ∀ y,inS (cS (ZL x d (kW x d l s.x1 false false out'))) y=true↔inS (cS out') y=true∧∀ z,s.x1<=z->z<=x+d->inS (kT l z) y=true:=by
     intro out' ho;obtain⟨g1,g2⟩:=KR x d l hl s.x1 false out' (by simp) fun _=>⟨ho,fun t ht=>hb t ht⟩;exact⟨g1,fun y=>by rw[g2];simp⟩
    have split:∀ y,(∀ z,nx<=z->z<=x+d->inS (kT (s::l) z) y=true)↔(inS (cS s.column) y=true∨x+d < nx)∧∀ z,s.x1<=z->z<=x+d->inS (kT l z) y=true:=by
     intro y;constructor
     ·intro h;refine⟨?_,fun z hz1 hz2=>?_⟩
      ·by_cases hn:nx<=x+d
       ·have:=h nx (Int.le_refl _) hn;rw[Yl (by omega) (by omega)]at this;exact .inl this
       ·right;omega
      ·have:=h z (by omega) hz2
       rwa [Fe (by omega)]at this
     ·rintro⟨a,b⟩ z hz1 hz2;by_cases hz:z < s.x1
      ·rw[Yl (by omega) hz];rcases a with a |a
       ·exact a
       ·omega
      ·rw[Fe (by omega)];exact b z (by omega) hz2
    cases first with
    |true=>
     simp only[au];obtain⟨g1,g2⟩:=key s.column hsc;refine⟨g1,fun y=>?_⟩;rw[g2,split];have:=h1 rfl;constructor
     ·rintro⟨a,b⟩;exact⟨by simp,.inl a,b⟩
     ·rintro⟨_,a |a,b⟩
      ·exact⟨a,b⟩
      ·omega
    |false=>
     simp only[aA];obtain⟨k1,k2⟩:=h2 rfl;have kn:=k2 s mem_cons_self;obtain⟨g1,g2⟩:=key (O4 out s.column) (acd k1 hsc);refine⟨g1,fun y=>?_⟩;rw[g2,split,ajI,aK];constructor
     ·rintro⟨⟨a,b⟩,c⟩;exact⟨fun _=>a,.inl b,c⟩
     ·rintro⟨a,b |b,c⟩
      ·exact⟨⟨a trivial,b⟩,c⟩
      ·omega
theorem ahi {l:List bZ} (h:ace l) {x d:Int} (hd:0<=d):Can (cS (KQ l x d))∧∀ y,inS (cS (KQ l x d)) y=true↔∀ z,x - d<=z->z<=x+d->inS (kT l z) y=true:=by
 obtain⟨g1,g2⟩:=KR x d l h (x - d) true [] (fun _=>by omega) (by simp);exact⟨g1,fun y=>by rw[ajJ,g2];simp⟩
theorem UM {F:List Int} (x d:Int):∀ (l:List bZ),(∀ s∈l,KP F s.column)->∀ (nx:Int) (gap first:Bool) (out:List bK),KP F out->KP F (kW x d l nx gap first out).2.2
 |[],_,_,_,_,_,h=>h
 |s::l,hl,nx,gap,first,out,h=>by
  have ih:=UM x d l fun t ht=>hl t (bP _ ht);simp only[kW];cases gap || (decide (s.x1<=nx) || decide (s.x0>x+d))with
  |true=>exact ih _ _ _ _ h
  |false=>
   cases decide (s.x0>nx)with
   |true=>exact ih _ _ _ _ h
   |false=>
    cases first with
    |true=>exact ih _ _ _ _ (hl s mem_cons_self)
    |false=>exact ih _ _ _ _ (Yj h (hl s mem_cons_self))
theorem UN (F:List Int):KP F []:=⟨tX,by simp⟩
theorem ahj {F:List Int} {l:List bZ} (h:∀ s∈l,KP F s.column) (x d:Int):KP F (KQ l x d):=by
 unfold KQ;cases (kW x d l (x - d) false true []).2.1 || decide ((kW x d l (x - d) false true []).1<=x+d)with
 |true=>exact UN F
 |false=>exact UM x d l h _ _ _ _ (UN F)
theorem aeO {a d:Int} (h1:0<=a∧a<=1048576) (h2:0<=d∧d<=1048576):i64.wrap (a+d)=a+d:=bB (by omega) (by omega)
theorem aeP {a d:Int} (h1:0<=a∧a<=1048576) (h2:0<=d∧d<=1048576):i64.wrap (a - d)=a - d:=bB (by omega) (by omega)
theorem aeQ (d:Int) (out:List bZ) (r:aj) (h:∀ c∈out.getLast?,c.x0≠r.x0):iX d out r=iX d (out++[⟨r.x0,r.x1,[]⟩]) r:=by
 unfold iX;cases ho:out.getLast? with
 |none=>
  have:out=[]:=List.getLast?_eq_none_iff.1 ho;subst this;simp
 |some c=>
  have:=h c (by rw[ho];rfl);simp[this]
theorem acf {d:Int} (hd:0<=d∧d<=1048576) (out:List bZ) (x0 x1:Int) (col:List bK) (s:aL) (hs:0<=s.from_∧s.from_ < s.to∧s.to<=1048576):
 iX d (out++[⟨x0,x1,col⟩]) ⟨x0,s.from_,x1,s.to⟩=out++[⟨x0,x1,col++DI d [s]⟩]:=by
 have w1:i64.wrap (s.from_+d)=s.from_+d:=aeO (by omega) hd;have w2:i64.wrap (s.to - d)=s.to - d:=aeP (by omega) hd;unfold iX DI;simp only[List.getLast?_append,List.getLast?_singleton,Option.or_some,Option.getD_some,if_true,w1,w2];by_cases h:s.from_+d < s.to - d
 ·simp[h]
 ·simp[h]
theorem acg (d:Int) (a b:List aL):DI d (a++b)=DI d a++DI d b:=by simp[DI]
theorem Ym {d:Int} (hd:0<=d∧d<=1048576) (x0 x1:Int):∀ (c:List aL),(∀ s∈c,0<=s.from_∧s.from_ < s.to∧s.to<=1048576)->∀ (out:List bZ) (col:List bK),
 (aF x0 x1 c).foldl (iX d) (out++[⟨x0,x1,col⟩])=out++[⟨x0,x1,col++DI d c⟩]
 |[],_,out,col=>by simp[aF,DI]
 |s::c,h,out,col=>by
  have e:aF x0 x1 (s::c)=⟨x0,s.from_,x1,s.to⟩::aF x0 x1 c:=rfl;rw[e,foldl_cons,acf hd _ _ _ _ _ (h s mem_cons_self),Ym hd x0 x1 c (fun t ht=>h t (bP _ ht))];have:DI d (s::c)=DI d [s]++DI d c:=acg d [s] c;rw[this,aQ]
def Cj (d:Int) (s:bg):bZ:=⟨s.x0,s.x1,DI d s.column⟩
theorem UO {d:Int} (hd:0<=d∧d<=1048576):∀ (R:List bg),Runs R->(∀ s∈R,∀ q∈s.column,0<=q.from_∧q.from_ < q.to∧q.to<=1048576)->∀ (out:List bZ),(∀ c∈out.getLast?,∀ s∈R.head?,c.x0 < s.x0)->
 (iK R).foldl (iX d) out=out++R.map (Cj d)
 |[],_,_,out,_=>by simp[iK]
 |s::R,h,hb,out,hl=>by
  have hh:=iA h;have e:iK (s::R)=aF s.x0 s.x1 s.column++iK R:=rfl;rw[e,List.foldl_append];have first:(aF s.x0 s.x1 s.column).foldl (iX d) out=out++[Cj d s]:=by
   cases hc:s.column with
   |nil=>exact absurd hc hh.2
   |cons q c=>
    have e2:aF s.x0 s.x1 (q::c)=⟨s.x0,q.from_,s.x1,q.to⟩::aF s.x0 s.x1 c:=rfl;rw[e2,foldl_cons,aeQ d out _ (fun c' hc'=>by have:=hl c' hc' s rfl;show c'.x0≠s.x0;omega),<- foldl_cons,<- e2];rw[Ym hd s.x0 s.x1 (q::c) (fun t ht=>hb s mem_cons_self t (by rw[hc];exact ht))];simp[Cj,hc]
  rw[first,UO hd R (fJ h) (fun t ht=>hb t (bP _ ht)) _ (fun c hc t ht=>?_)]
  ·simp
  ·simp only[List.getLast?_append,List.getLast?_singleton,Option.mem_def]at hc;have hc:Cj d s=c:=(by simpa using hc);subst hc;cases R with
   |nil=>simp at ht
   |cons u R=>
    simp only[List.head?_cons,Option.mem_def,aG]at ht;subst ht;have:=h.2.1;show s.x0 < u.x0;omega
theorem O6 {n:Nat} {b:List bK} (x:bK) (hb:b.length<=1000) (hn:1000 < n) (out:List bK) (ho:out.length<=100000000):
 iter (tq b x) n ((0:Int),out)=some (out++(b.filter fun y=>decide (max x.from_ y.from_ < min x.to y.to)).map fun y=>⟨max x.from_ y.from_,min x.to y.to⟩):=by
 have:=cZ (l:=b) (step:=tq b x) (fun i (s:List bK)=>((i:Int),s)) (fun y s=>bif decide (max x.from_ y.from_ < min x.to y.to)then s++[⟨max x.from_ y.from_,min x.to y.to⟩]else s) (fun s=>s) (fun i s=>s.length<=100000000+i)
  (fun i hi s hs=>?_) (fun s hs=>by simp[tq]) n (by omega) out (by omega)
 ·rw[show ((0:Nat):Int)=0 from rfl]at this;rw[this];congr 1;have gen:∀ (ys:List bK) (s:List bK),ys.foldl (fun s y=>bif decide (max x.from_ y.from_ < min x.to y.to)then s++[⟨max x.from_ y.from_,min x.to y.to⟩]else s) s=s++(ys.filter fun y=>decide (max x.from_ y.from_ < min x.to y.to)).map fun y=>⟨max x.from_ y.from_,min x.to y.to⟩:=by
   intro ys
   induction ys with
   |nil=>intro s;simp
   |cons y ys ih=>
    intro s;rw[foldl_cons,ih,List.filter_cons];cases decide (max x.from_ y.from_ < min x.to y.to)<;>simp
  exact gen b out
 ·have ap:bM s.length s.length (sub ([(bK.mk (max x.from_ b[i].from_) (min x.to b[i].to))]:List bK) 0 1).length 1 16=true:=bI (n:=1);simp only[tq,bG hi,au,aY hi,ah,ap,dH,aC,lU];cases decide (max x.from_ b[i].from_ < min x.to b[i].to)with
  |true=>
   refine⟨?_,by simp only[au,aZ,length_singleton];omega⟩;simp only[au];rw[aN (by omega)];rfl
  |false=>
   refine⟨?_,by simp only[aA];omega⟩;simp only[aA];rw[aN (by omega)]
theorem ZM {n:Nat} {a b:List bK} (ha:a.length<=1000) (hb:b.length<=1000) (hn:1000 < n):Ji n a b=some (O4 a b):=by
 unfold Ji
 have:=cZ (l:=a) (step:=yL n a b) (fun i (s:List bK)=>((i:Int),s)) (fun x s=>s++(b.filter fun y=>decide (max x.from_ y.from_ < min x.to y.to)).map fun y=>⟨max x.from_ y.from_,min x.to y.to⟩) (fun s=>s) (fun i s=>s.length<=1000*i)
  (fun i hi s hs=>?_) (fun s hs=>by simp[yL]) n (by omega) [] (by simp)
 ·rw[show ((0:Nat):Int)=0 from rfl]at this;simp only[length_nil,aC,au,this,ah,bE];congr 1;have gen:∀ (xs:List bK) (s:List bK),xs.foldl (fun s x=>s++(b.filter fun y=>decide (max x.from_ y.from_ < min x.to y.to)).map fun y=>⟨max x.from_ y.from_,min x.to y.to⟩) s=s++O4 xs b:=by
   intro xs
   induction xs with
   |nil=>intro s;simp[O4]
   |cons x xs ih=>intro s;rw[foldl_cons,ih];simp[O4]
  simpa using gen a []
 ·have hlen:((b.filter fun y=>decide (max (a[i]).from_ y.from_ < min (a[i]).to y.to)).map fun y=>(⟨max (a[i]).from_ y.from_,min (a[i]).to y.to⟩:bK)).length<=1000:=by
   rw[length_map];exact Nat.le_trans (length_filter_le _ _) hb
  simp only[yL,bG hi,au,aY hi,ah,aC];rw[O6 _ hb hn s (by omega)];simp only[ah,aC,au];refine⟨?_,by rw[aZ];omega⟩;rw[aN (by omega)]
theorem DJ {n:Nat} {F:List Int} (hF:F.length<=1000) {x d:Int} (hx: -1048576<=x∧x<=3000000) (hd:0<=d∧d<=1048576) (L:List bZ) (hL:∀ s∈L,KP F s.column) (hn:1000 < n) (hl:L.length<=1000):
 ∀ (m i:Nat) (nx:Int) (gap first:Bool) (out:List bK),i+m=L.length->KP F out->∀ k,m < k->
   iter (tu n L) k ((i:Int),x,d,nx,gap,first,out)=some (x,d,(kW x d (L.drop i) nx gap first out).1,(kW x d (L.drop i) nx gap first out).2.1,(kW x d (L.drop i) nx gap first out).2.2)
 | 0,i,nx,gap,first,out,hi,ho,k,hk=>by
  obtain⟨k,rfl⟩:∃ j,k=j+1:=⟨k - 1,by omega⟩;have:i=L.length:=by omega
  subst this;refine bF ?_;simp[tu,kW]
 |m+1,i,nx,gap,first,out,hi,ho,k,hk=>by
  obtain⟨k,rfl⟩:∃ j,k=j+1:=⟨k - 1,by omega⟩;have hil:i < L.length:=by omega
  have w:i64.wrap (x+d)=x+d:=bB (by omega) (by omega);have ih:=fun nx gap first out ho=>DJ hF hx hd L hL hn hl m (i+1) nx gap first out (by omega) ho k (by omega)
  have hdr:L.drop i=L[i]::L.drop (i+1):=drop_eq_getElem_cons hil;have hc:=hL _ (getElem_mem hil);rw[hdr];simp only[kW]
  have st:tu n L ((i:Int),x,d,nx,gap,first,out)=some (.inl (((i+1:Nat):Int),x,d,
   bif gap || (decide (L[i].x1<=nx) || decide (L[i].x0>x+d))then nx else bif decide (L[i].x0>nx)then nx else L[i].x1,
   bif gap || (decide (L[i].x1<=nx) || decide (L[i].x0>x+d))then gap else bif decide (L[i].x0>nx)then true else gap,
   bif gap || (decide (L[i].x1<=nx) || decide (L[i].x0>x+d))then first else bif decide (L[i].x0>nx)then first else false,
   bif gap || (decide (L[i].x1<=nx) || decide (L[i].x0>x+d))then out else bif decide (L[i].x0>nx)then out else bif first then L[i].column else O4 out L[i].column)):=by
   have lo:=UL ho;have lc:=UL hc;simp only[tu,bG hil,au,aY hil,ah,EQ,w,lU,ZM (n:=n) (a:=out) (b:=L[i].column) (by omega) (by omega) hn,bE,aC,bL i];cases gap<;>cases decide (L[i].x1<=nx)<;>cases decide (L[i].x0>x+d)<;>cases decide (L[i].x0>nx)<;>cases first<;>rfl
  rw[dK st,ih]
  ·cases gap<;>cases decide (L[i].x1<=nx)<;>cases decide (L[i].x0>x+d)<;>cases decide (L[i].x0>nx)<;>cases first<;>rfl
  ·cases gap || (decide (L[i].x1<=nx) || decide (L[i].x0>x+d))with
   |true=>exact ho
   |false=>
    cases decide (L[i].x0>nx)with
    |true=>exact ho
    |false=>
     cases first with
     |true=>exact hc
     |false=>exact Yj ho hc
theorem ZN {n:Nat} {F:List Int} (hF:F.length<=1000) {x d:Int} (hx: -1048576<=x∧x<=3000000) (hd:0<=d∧d<=1048576) (L:List bZ) (hL:∀ s∈L,KP F s.column) (hn:1000 < n) (hl:L.length<=1000):Dm n L x d=some (KQ L x d):=by
 unfold Dm;have w1:i64.wrap (x - d)=x - d:=bB (by omega) (by omega);have w2:i64.wrap (x+d)=x+d:=bB (by omega) (by omega);have:=DJ hF hx hd L hL hn hl L.length 0 (x - d) false true [] (by omega) (UN F) n (by omega);rw[show ((0:Nat):Int)=0 from rfl,List.drop_zero]at this;rw[w1,this];simp only[ah,w2,lU,KQ];cases (kW x d L (x - d) false true []).2.1<;>cases decide ((kW x d L (x - d) false true []).1<=x+d)<;>rfl
def fZ (d:Int) (a:List aj):List bZ:=(DF (bq a)).map (Cj d)
def xsL (d:Int) (L:List bZ):List Int:=uH (L.flatMap fun s=>[s.x0+d,s.x1+d,s.x0 - d,s.x1 - d])
def kH (d:Int) (L:List bZ):List bg:=gX (fun a b=>⟨a,b,cS (KQ L a d)⟩) (xsL d L)
def nW (a:List aj) (d:Int):List aj×Int:=
 if (decide (0<=d)&&(decide (d<=1048576)&&rightL a))=true then (if (bD (kH d (fZ d a))).length>200 then ([],6)else (bD (kH d (fZ d a)),0))else ([],1)
structure aeR (R:List bg):Prop where
 runs:Runs R
 len:R.length<=200
 col:∀ s∈R,Can s.column∧∀ q∈s.column,0<=q.from_∧q.from_ < q.to∧q.to<=1048576
 xs:∀ s∈R,0<=s.x0∧s.x0 < s.x1∧s.x1<=1048576
 froms:(R.flatMap fun s=>s.column.map (·.from_)).length<=200
theorem ach (R:List bg):(iK R).length=(R.flatMap fun s=>s.column.map (·.from_)).length:=by
 induction R with
 |nil=>rfl
 |cons s R ih=>
  have e:iK (s::R)=aF s.x0 s.x1 s.column++iK R:=rfl;rw[e,aZ,ih,List.flatMap_cons,aZ,bW,length_map]
theorem aci:∀ {R:List bg},Runs R->R.length<=(iK R).length
 |[],_=>by simp
 |s::R,h=>by
  have hh:=iA h;have e:iK (s::R)=aF s.x0 s.x1 s.column++iK R:=rfl;have:=aci (fJ h);have:=List.length_pos_iff.2 hh.2;rw[e,aZ,bW,bH];omega
theorem KS {a:List aj} (h:rightL a=true):aeR (DF (bq a))∧iK (DF (bq a))=a∧∀ x,fI (DF (bq a)) x=bQ a x:=by
 obtain⟨hv,hl,hw⟩:=dV h;obtain⟨r1,r2⟩:=oM (lW a);rw[mh]at hw;have hc:∀ x,fI (DF (bq a)) x=bQ a x:=fun x=>by rw[r2,nO]
 have okr:∀ s∈DF (bq a),∀ q∈s.column,OkR ⟨s.x0,q.from_,s.x1,q.to⟩=true:=fun s hs q hq=>hv _ (by rw[<- hw];exact BF.2 ⟨s,hs,q,hq,rfl⟩);refine⟨⟨r1,?_,fun s hs=>⟨?_,fun q hq=>?_⟩,fun s hs=>?_,?_⟩,hw,hc⟩
 ·have:=aci r1;rw[hw]at this;omega
 ·obtain⟨m1,m2⟩:=mq r1 s hs;have:=m2 s.x0 (Int.le_refl _) m1;rw[hc]at this;rw[<- this];exact (eu hv s.x0).1
 ·have:=okr s hs q hq;simp only[OkR,aK,aM]at this;omega
 ·obtain⟨m1,m2⟩:=mq r1 s hs;have hne:s.column≠[]:=by
   intro e;have:=m2 s.x0 (Int.le_refl _) m1;have h3:∃ i,∃ hi:i < (DF (bq a)).length,(DF (bq a))[i]=s:=mem_iff_getElem.1 hs;have:∀ {R:List bg},Runs R->∀ s∈R,s.column≠[]:=by
    intro R
    induction R with
    |nil=>intro _ s hs;simp at hs
    |cons t R ih=>
     intro hR s hs;rcases aI.1 hs with rfl |hs
     ·exact (iA hR).2
     ·exact ih (fJ hR) s hs
   exact this r1 s hs e
  obtain⟨q,hq⟩:=List.exists_mem_of_ne_nil _ hne;have:=okr s hs q hq;simp only[OkR,aK,aM]at this;omega
 ·rw[<- ach,hw];exact hl
theorem DK:∀ {R:List bg},Runs R->R.Pairwise (fun s t=>s.x1<=t.x0)
 |[],_=>List.Pairwise.nil
 |[s],_=>by simp
 |s::t::R,h=>by
  have ih:=DK (fJ h);refine pairwise_cons.2 ⟨fun u hu=>?_,ih⟩;rcases aI.1 hu with rfl |hu
  ·exact h.2.1
  ·have:=(pairwise_cons.1 ih).1 u hu;have:=(iA (fJ h)).1;have:=h.2.1;omega
theorem aiH {R:List bg} (h:aeR R) {d:Int} (hd:0<=d):ace (R.map (Cj d)):=by
 refine⟨?_,fun s hs=>?_⟩
 ·rw[List.pairwise_map];exact DK h.runs
 ·obtain⟨t,ht,rfl⟩:=mem_map.1 hs;exact⟨(h.xs t ht).2.1,ab9 hd (h.col t ht).1⟩
theorem aeS {R:List bg} (h:aeR R) {d:Int} (hd:0<=d):∀ s∈R.map (Cj d),KP ((R.flatMap fun s=>s.column.map (·.from_)).map (· +d)) s.column:=by
 intro s hs;obtain⟨t,ht,rfl⟩:=mem_map.1 hs;refine⟨ab9 hd (h.col t ht).1,fun q hq=>?_⟩;simp only[Cj,DI,mem_map,mem_filter]at hq;obtain⟨p,⟨hp,_⟩,rfl⟩:=hq;exact mem_map.2 ⟨p.from_,mem_flatMap.2 ⟨t,ht,mem_map.2 ⟨p,hp,rfl⟩⟩,rfl⟩
theorem QT (d:Int):∀ (R:List bg) (x:Int),kT (R.map (Cj d)) x=cS (DI d (fI R x))
 |[],x=>rfl
 |s::R,x=>by
  have ih:=QT d R x;simp only[kT,bf,fI,tS,Cj]at*;cases decide (s.x0<=x)&&decide (x < s.x1)with
  |true=>rfl
  |false=>exact ih
theorem akB {a b:List bK} (h:cS a=cS b):a=b:=by
 induction a generalizing b with
 |nil=>cases b with
  |nil=>rfl
  |cons y b=>simp[cS]at h
 |cons x a ih=>cases b with
  |nil=>simp[cS]at h
  |cons y b=>
   simp only[cS,bf,List.cons.injEq]at h;obtain⟨h1,h2⟩:=h;rw[ih h2];obtain⟨x1,x2⟩:=x;obtain⟨y1,y2⟩:=y;simp only[unq,aL.mk.injEq]at h1;rw[h1.1,h1.2]
theorem KT (a:List bK):(cS a).length=a.length:=by simp[cS]
theorem M5 {n:Nat} {a b:List bK} (hl:a.length < 1099511627776) (hn:a.length < n):tC n a b=some (decide (a=b)):=by
 have e:tC n a b=Md n (fun x1 x2:bK=>!((x1.from_==(x2.from_:Int))&&((x1.to==(x2.to:Int))&&true))) a b:=by kernel_rfl
 rw[e];refine GR (fun x y=>?_) hl hn;obtain⟨x1,x2⟩:=x;obtain⟨y1,y2⟩:=y;rw[bJ];simp
theorem O7 {n:Nat} {d:Int} (hd:0<=d∧d<=1048576) {L:List bZ} (hx:∀ s∈L,0<=s.x0∧s.x0 < s.x1∧s.x1<=1048576) (hl:L.length<=1000) (hn:1000 < n):
 iter (tH d L) n ((0:Int),([]:List Int))=some (L.flatMap fun s=>[s.x0+d,s.x1+d,s.x0 - d,s.x1 - d]):=by
 have:=cZ (l:=L) (step:=tH d L) (fun i (s:List Int)=>((i:Int),s)) (fun r s=>s++[i64.wrap (r.x0+d),i64.wrap (r.x1+d),i64.wrap (r.x0 - d),i64.wrap (r.x1 - d)]) (fun s=>s) (fun i s=>s.length<=4*i)
  (fun i hi s hs=>?_) (fun s hs=>by simp[tH]) n (by omega) [] (aU _)
 ·rw[show ((0:Nat):Int)=0 from rfl]at this;rw[this];have gen:∀ (ys:List bZ),(∀ s∈ys,0<=s.x0∧s.x0 < s.x1∧s.x1<=1048576)->∀ (s:List Int),ys.foldl (fun s r=>s++[i64.wrap (r.x0+d),i64.wrap (r.x1+d),i64.wrap (r.x0 - d),i64.wrap (r.x1 - d)]) s=s++ys.flatMap fun s=>[s.x0+d,s.x1+d,s.x0 - d,s.x1 - d]:=by
   intro ys
   induction ys with
   |nil=>intro _ s;simp
   |cons y ys ih=>
    intro hy s;have h0:=hy y mem_cons_self;rw[foldl_cons,ih (fun t ht=>hy t (bP _ ht)),aeO (by omega) hd,aeO (by omega) hd,aeP (by omega) hd,aeP (by omega) hd];simp
  congr 1;simpa using gen L hx []
 ·have ap:bM s.length s.length (sub ([(i64.wrap (L[i].x0+d)),(i64.wrap (L[i].x1+d)),(i64.wrap (L[i].x0 - d)),(i64.wrap (L[i].x1 - d))]:List Int) 0 4).length 4 8=true:=bI (n:=4);simp only[tH,bE,bG hi,au,aY hi,ah,ap,dH,aC];refine⟨?_,by simp;omega⟩;rw[aN (by omega)];rfl
theorem O8 {n:Nat} (es:List Int) (i:Nat) (hi:i+1 < es.length) (he:es.length < 1099511627776) (pre:List aj) (x' x1:Int) (c:List aL) (hl:pre.length+c.length < 1099511627776) (hn:c.length < n):
 iter (tJ ((),es) ((i+1:Nat):Int) (pre++aF x' x1 c)) n (((pre.length:Nat):Int),pre++aF x' x1 c)=some (pre++aF x' es[i+1] c):=by
 have:=d9 (step:=tJ ((),es) ((i+1:Nat):Int) (pre++aF x' x1 c)) (fun j=>(((pre.length+j:Nat):Int),pre++(aF x' es[i+1] (c.take j)++aF x' x1 (c.drop j)))) c.length (pre++aF x' es[i+1] c) (fun j hj=>?_) ?_ n hn
 ·simpa[aF]using this
 ·have lt:(pre++aF x' x1 c).length=pre.length+c.length:=by rw[aZ,bW]
  have d:decide (((pre.length+j:Nat):Int) < (((pre++aF x' x1 c).length:Nat):Int))=true:=by rw[lt];simp;omega
  have ib:inb ((pre.length+j:Nat):Int) (pre++aF x' x1 c).length=true:=bC (by rw[lt];omega);have tl:(aF x' es[i+1] (c.take j)).length=j:=by rw[bW,length_take];omega
  have dr:c.drop j=c[j]::c.drop (j+1):=drop_eq_getElem_cons hj;have e1:aF x' x1 (c.drop j)=⟨x',c[j].from_,x1,c[j].to⟩::aF x' x1 (c.drop (j+1)):=by rw[dr];rfl
  have g:at? (pre++(aF x' es[i+1] (c.take j)++aF x' x1 (c.drop j))) (((0:Nat):Int)+((pre.length+j:Nat):Int))=some ⟨x',c[j].from_,x1,c[j].to⟩:=by
   rw[gW,eZ (by omega),eZ (by omega),tl,e1];simp
  have z:(((0:Nat):Int)+((pre.length+j:Nat):Int)).toNat=pre.length+j:=by omega
  have sn:aF x' es[i+1] (c.take j++[c[j]])=aF x' es[i+1] (c.take j)++[aj.mk x' c[j].from_ es[i+1] c[j].to]:=by unfold aF;rw[List.map_append];rfl
  have st:(pre++(aF x' es[i+1] (c.take j)++aF x' x1 (c.drop j))).set (pre.length+j) (aj.mk x' c[j].from_ es[i+1] c[j].to)=pre++(aF x' es[i+1] (c.take (j+1))++aF x' x1 (c.drop (j+1))):=by
   rw[List.set_append_right _ _ (by omega),List.set_append_right _ _ (by omega),tl,e1,dW hj,sn,Nat.add_sub_cancel_left,Nat.sub_self,List.set_cons_zero,aQ];rfl
  simp only[tJ,d,au,bE,aY hi,ah,ib,g,z,st];rw[aN (by omega)];rfl
 ·have lt:(pre++aF x' x1 c).length=pre.length+c.length:=by rw[aZ,bW]
  have d:decide (((pre.length+c.length:Nat):Int) < (((pre++aF x' x1 c).length:Nat):Int))=false:=by rw[lt];simp
  simp only[tJ,d,aA,List.take_length,List.drop_length];simp[aF]
theorem O9 {n:Nat} (es:List Int) (i:Nat) (hi:i+1 < es.length) (he:es.length < 1099511627776) (out:List aj) (c:List bK) (hl:out.length+c.length < 1099511627) (hn:c.length < n):
 iter (tK ((),es) ((i+1:Nat):Int) c) n ((0:Int),out)=some (out++aF (es[i]'(by omega)) es[i+1] (cS c)):=by
 have:=cZ (l:=c) (step:=tK ((),es) ((i+1:Nat):Int) c) (fun j (s:List aj)=>((j:Int),s)) (fun q s=>s++[⟨es[i]'(by omega),q.from_,es[i+1],q.to⟩]) (fun s=>s) (fun j s=>s.length<=out.length+j)
  (fun j hj s hs=>?_) (fun s hs=>by simp[tK]) n hn out (aU _)
 ·rw[show ((0:Nat):Int)=0 from rfl]at this;rw[this];have gen:∀ (ys:List bK) (s:List aj),ys.foldl (fun s q=>s++[⟨es[i]'(by omega),q.from_,es[i+1],q.to⟩]) s=s++aF (es[i]'(by omega)) es[i+1] (cS ys):=by
   intro ys
   induction ys with
   |nil=>intro s;simp[aF,cS]
   |cons y ys ih=>intro s;rw[foldl_cons,ih];simp[aF,cS,unq]
  rw[gen]
 ·have w:i64.wrap (((i+1:Nat):Int) - 1)=((i:Nat):Int):=by rw[gB (by omega) (by omega)];rfl
  have ap:bM s.length s.length (sub ([(aj.mk (es[i]'(by omega)) (c[j]).from_ es[i+1] (c[j]).to)]:List aj) 0 1).length 1 32=true:=bI (n:=1);simp only[tK,bG hj,au,aY hj,ah,w,bE,aY hi,aY (show i < es.length by omega),ap,dH,aC];refine⟨?_,by simp;omega⟩;rw[aN (by omega)];rfl
theorem M6 {d:Int} {L:List bZ} {z:Int}:z∈xsL d L↔∃ s∈L,z=s.x0+d∨z=s.x1+d∨z=s.x0 - d∨z=s.x1 - d:=by
 rw[xsL,Dg,mem_flatMap];simp
theorem M7 (d:Int) (L:List bZ):(L.flatMap fun s=>[s.x0+d,s.x1+d,s.x0 - d,s.x1 - d]).length=4*L.length:=by
 induction L with
 |nil=>rfl
 |cons s L ih=>rw[List.flatMap_cons,aZ,ih];simp;omega
theorem ajK (d:Int) (L:List bZ):(xsL d L).length<=4*L.length:=by
 have h:=jk (gK ltI (L.flatMap fun s=>[s.x0+d,s.x1+d,s.x0 - d,s.x1 - d]));rw[dD,M7]at h;exact h
def BH (d:Int) (L:List bZ) (es:List Int) (i:Nat):List bK:=KQ L (es.getD i 0) d
def SA (d:Int) (L:List bZ) (es:List Int) (S:List bg) (i:Nat):List bK×Int×Int×List aj:=
 (if i=0 then []else BH d L es (i - 1),(((bD (S.take i)).length - (if i=0 then 0 else (BH d L es (i - 1)).length):Nat):Int),((i+1:Nat):Int),bD (S.take i))
theorem Pb {n:Nat} {d:Int} (hd:0<=d∧d<=1048576) {L:List bZ} (hx:∀ s∈L,0<=s.x0∧s.x0 < s.x1∧s.x1<=1048576) {F:List Int} (hF:F.length<=200) (hc:∀ s∈L,KP F s.column) (hl:L.length<=200) (hn:1000 < n):
 iter (pz n d L ((),xsL d L)) n (([]:List bK),(0:Int),(1:Int),([]:List aj))=some (bD (kH d L)):=by
 have he:=ajK d L;obtain⟨p1,p2⟩:=jO (fun a b=>(⟨a,b,cS (KQ L a d)⟩:bg)) (xsL d L);have hS:(kH d L).length=(xsL d L).length - 1:=p1;have wl:∀ x,(KQ L x d).length<=200:=fun x=>by have:=UL (ahj hc x d);omega
 have xr:∀ z∈xsL d L,-1048576<=z∧z<=3000000:=by
  intro z hz;obtain⟨s,hs,h⟩:=M6.1 hz;have:=hx s hs;omega
 have sc:∀ s∈kH d L,s.column.length<=200:=by
  intro s hs;obtain⟨i,hi,rfl⟩:=mem_iff_getElem.1 hs;have:=p2 i (by omega) hi;unfold kH;rw[this,KT];exact wl _
 have bl:∀ i,(bD ((kH d L).take i)).length<=800*200:=by
  intro i;have h1:=Ka ((kH d L).take i) 200 fun s hs=>sc s (List.mem_of_mem_take hs);have h2:((kH d L).take i).length<=800:=by rw[length_take];omega
  exact Nat.le_trans h1 (Nat.mul_le_mul_right _ h2)
 by_cases hE:(xsL d L).length=0
 ·
  have s0:kH d L=[]:=List.length_eq_zero_iff.1 (by omega);have x0:xsL d L=[]:=List.length_eq_zero_iff.1 hE;obtain⟨n,rfl⟩:∃ m,n=m+1:=⟨n - 1,by omega⟩;refine bF ?_;rw[s0,x0];simp[pz,bD,sub]
 have main:=d9 (step:=pz n d L ((),xsL d L)) (SA d L (xsL d L) (kH d L)) (kH d L).length (bD (kH d L)) (fun i hi=>?_) ?_ n (by omega)
 ·simpa[SA,bD]using main
 ·have hi2:i+1 < (xsL d L).length:=by omega
  have hi1:i < (xsL d L).length:=by omega
  have gD:(xsL d L).getD i 0=(xsL d L)[i]:=by simp[hi1]
  have hs:(kH d L)[i]=⟨(xsL d L)[i],(xsL d L)[i+1],cS (BH d L (xsL d L) i)⟩:=by
   unfold BH;rw[gD];exact p2 i hi2 hi
  have w:i64.wrap (((i+1:Nat):Int) - 1)=((i:Nat):Int):=by rw[gB (by omega) (by omega)];rfl
  have wn:Dm n L (xsL d L)[i] d=some (BH d L (xsL d L) i):=by
   unfold BH;rw[gD];exact ZN (F:=F) (by omega) (xr _ (getElem_mem hi1)) hd L hc hn (by omega)
  have wi:(BH d L (xsL d L) i).length<=200:=wl _;have tk:(kH d L).take (i+1)=(kH d L).take i++[(⟨(xsL d L)[i],(xsL d L)[i+1],cS (BH d L (xsL d L) i)⟩:bg)]:=by rw[dW hi,hs]
  have bi:=bl i;have w2:i64.wrap (((i+1:Nat):Int)+1)=((i+1+1:Nat):Int):=aN (by omega);have d1:decide (((i+1:Nat):Int) < ((((xsL d L)).length:Nat):Int))=true:=bG hi2;have s4:=O9 (n:=n) (xsL d L) i hi2 (by omega) (bD ((kH d L).take i)) (BH d L (xsL d L) i) (by omega) (by omega);unfold SA;simp only[pz,bE,d1,au,w,aY hi1,ah,wn,w2,aC,s4];generalize hW:BH d L (xsL d L) i=W at*;by_cases h0:i=0
  ·have g1:decide (((i+1:Nat):Int)>1)=false:=(by rw[bU];omega);have tz:List.take i (kH d L)=[]:=(by rw[h0];rfl);have wz:bD (List.take i (kH d L))=[]:=(by rw[tz];rfl);have w1:bD (List.take (i+1) (kH d L))=aF (xsL d L)[i] (xsL d L)[i+1] (cS W):=(by rw[tk,tz];rfl);simp only[g1,aA,ah,wz,cu,w1,aC,au,hW,Nat.add_sub_cancel,Nat.add_one_ne_zero,if_false,bW,KT,Nat.sub_self,length_nil]
  ·have g1:decide (((i+1:Nat):Int)>1)=true:=(by simp;omega);simp only[g1,au,aD h0,Nat.add_one_ne_zero,if_false,Nat.add_sub_cancel,hW];have hi0:i - 1 < (kH d L).length:=(by omega);have hq:=p2 (i - 1) (by omega) hi0;have gD0:(xsL d L).getD (i - 1) 0=(xsL d L)[i - 1]:=(by simp[show i - 1 < (xsL d L).length by omega]);have e0:(kH d L).take i=(kH d L).take (i - 1)++[(⟨(xsL d L)[i - 1],(xsL d L)[i - 1+1],cS (BH d L (xsL d L) (i - 1))⟩:bg)]:=by
    have:=dW hi0;rw[show i - 1+1=i by omega]at this;rw[this];congr 2;unfold BH;rw[gD0];exact hq
   have wm:(BH d L (xsL d L) (i - 1)).length<=200:=wl _;generalize BH d L (xsL d L) (i - 1)=V at*;generalize (kH d L).take (i - 1)=S at e0;have tk2:(kH d L).take (i+1)=S++[(⟨(xsL d L)[i - 1],(xsL d L)[i - 1+1],cS V⟩:bg),(⟨(xsL d L)[i],(xsL d L)[i+1],cS W⟩:bg)]:=(by rw[tk,e0,aQ];rfl);rw[M5 (by omega) (by omega)];simp only[ah];by_cases hWV:W=V
   ·subst hWV;obtain⟨pre,x',w3,w4⟩:=QR ⟨(xsL d L)[i],(xsL d L)[i+1],cS W⟩ ⟨(xsL d L)[i - 1],(xsL d L)[i - 1+1],cS W⟩ rfl S;have ww:bD ((kH d L).take i)=pre++aF x' (xsL d L)[i - 1+1] (cS W):=(by rw[e0,w3]);have ww2:bD ((kH d L).take (i+1))=pre++aF x' (xsL d L)[i+1] (cS W):=(by rw[tk2,w4]);have lp:(bD ((kH d L).take i)).length=pre.length+W.length:=(by rw[ww,aZ,bW,KT]);have lp2:(bD ((kH d L).take (i+1))).length=pre.length+W.length:=(by rw[ww2,aZ,bW,KT]);cases hz:decide (((W.length:Nat):Int)>0)with
    |true=>
     have s3:=O8 (n:=n) (xsL d L) i hi2 (by omega) pre x' (xsL d L)[i - 1+1] (cS W) (by rw[KT];omega) (by rw[KT];omega);have pl:(bD ((kH d L).take i)).length - W.length=pre.length:=(by omega);have pl2:(bD ((kH d L).take (i+1))).length - W.length=pre.length:=(by omega);simp only[au,ah,decide_true,pl,pl2];rw[ww,s3,ww2];simp only[ah];have le:eqL (pre++aF x' (xsL d L)[i - 1+1] (cS W)).length (pre++aF x' (xsL d L)[i+1] (cS W)).length=true:=(by apply Zn;rw[aZ,aZ,bW,bW]);simp only[le,au,ah,aC]
    |false=>
     have hw0:W=[]:=List.length_eq_zero_iff.1 (by rw[bU]at hz;omega);subst hw0;have r0:∀ a b,aF a b (cS [])=[]:=fun _ _=>rfl;simp only[aA,ah,r0,append_nil,aC,au]at*;rw[ww2,<- ww];simp
   ·have dn:decide (W=V)=false:=(by simpa using hWV);have wne:(⟨(xsL d L)[i],(xsL d L)[i+1],cS W⟩:bg).column≠(⟨(xsL d L)[i - 1],(xsL d L)[i - 1+1],cS V⟩:bg).column:=fun e=>hWV (akB e);have ww2:bD ((kH d L).take (i+1))=bD ((kH d L).take i)++aF (xsL d L)[i] (xsL d L)[i+1] (cS W):=by
     rw[tk2,e0];exact UK _ _ wne S
    have e1:(bif decide (((W.length:Nat):Int)>0)then some (decide (W=V))else some false:Option Bool)=some false:=(by rw[dn];cases decide (((W.length:Nat):Int)>0)<;>rfl);rw[e1];simp only[ah,aA,aC,au,ww2,aZ,bW,KT,Nat.add_sub_cancel]
 ·have d1:decide ((((kH d L).length+1:Nat):Int) < ((((xsL d L)).length:Nat):Int))=false:=by rw[bU];omega
  unfold SA;simp only[pz,bE,d1,aA,aC,au,List.take_length]
theorem ZO {n:Nat} {a:List aj} {d:Int} (ha:a.length<=900) (hn:10000<=n):Jj n a d=some (nW a d):=by
 unfold Jj UA;rw[oL (by omega) (by omega) (by omega)];simp only[ah,E9,nW];by_cases hv:(decide (0<=d)&&(decide (d<=1048576)&&rightL a))=true
 ·have hv':(decide (d>=0)&&(decide (d<=1048576)&&rightL a))=true:=hv;rw[hv'];simp only[hv,if_true,Bool.not_true,aA];simp only[aK,aM]at hv;obtain⟨h0,h1,hr⟩:=hv;obtain⟨rok,hro,_⟩:=KS hr;have hsl:Hf a d=some (fZ d a):=by
   unfold Hf;rw[aJ (by omega)];congr 1;have:=UO (d:=d) ⟨h0,h1⟩ (DF (bq a)) rok.runs (fun s hs=>(rok.col s hs).2) [] (by simp);rw[hro]at this;rw[this];rfl
  have hx:∀ s∈fZ d a,0<=s.x0∧s.x0 < s.x1∧s.x1<=1048576:=by
   intro s hs;obtain⟨t,ht,rfl⟩:=mem_map.1 hs;exact rok.xs t ht
  have hl:(fZ d a).length<=200:=by unfold fZ;rw[length_map];exact rok.len
  have s1:=O7 (n:=n) (d:=d) ⟨h0,h1⟩ hx (by omega) (by omega);have l4:=M7 d (fZ d a);have s2:=Pb (n:=n) (d:=d) ⟨h0,h1⟩ hx (F:=((DF (bq a)).flatMap fun s=>s.column.map (·.from_)).map (· +d)) (by rw[length_map];exact rok.froms) (aeS rok h0) hl (by omega);simp only[hsl,ah,bE,aC,au,length_nil,s1];rw[oJ (by omega) (by omega)];simp only[ah,dD,aC,au];rw[nV (by rw[dD];omega) (by rw[dD];omega)];simp only[ah,bE,aC,au];have hE:fM (gK ltI ((fZ d a).flatMap fun s=>[s.x0+d,s.x1+d,s.x0 - d,s.x1 - d]))=xsL d (fZ d a):=rfl;rw[hE,s2];simp only[ah];by_cases h200:(bD (kH d (fZ d a))).length>200
  ·have:decide ((((bD (kH d (fZ d a))).length:Nat):Int)>200)=true:=(by simp;omega);rw[this,aJ h200];rfl
  ·have:decide ((((bD (kH d (fZ d a))).length:Nat):Int)>200)=false:=(by simp;omega);rw[this,aD h200];rfl
 ·have hv':(decide (d>=0)&&(decide (d<=1048576)&&rightL a))=false:=by simpa using hv
  rw[hv'];simp only[hv,if_false,Bool.not_false,au];rfl
theorem agv {a:List aj} {d:Int} (h0:0<=d) (hr:rightL a=true):nQ (kH d (fZ d a))∧∀ x,Can (fI (kH d (fZ d a)) x)∧∀ y,inS (fI (kH d (fZ d a)) x) y=true↔∀ u v,x - d<=u->u<=x+d->y - d<=v->v<=y+d->aV a u v=true:=by
 obtain⟨rok,hro,hcol⟩:=KS hr;have hv:=(dV hr).1;have hS:=aiH rok h0;have xs:=rR ((fZ d a).flatMap fun s=>[s.x0+d,s.x1+d,s.x0 - d,s.x1 - d]);have sat:∀ z,kT (fZ d a) z=cS (DI d (bQ a z)):=fun z=>by unfold fZ;rw[QT,hcol]
 have win:∀ x,Can (cS (KQ (fZ d a) x d))∧∀ y,inS (cS (KQ (fZ d a) x d)) y=true↔∀ z,x - d<=z->z<=x+d->inS (kT (fZ d a) z) y=true:=fun x=>ahi hS h0;refine⟨uh _ _ xs,fun x=>?_⟩;have e:fI (kH d (fZ d a)) x=cS (KQ (fZ d a) x d):=by
  have slabIn:∀ z y,inS (kT (fZ d a) z) y=true->∃ s∈fZ d a,s.x0<=z∧z < s.x1:=by
   intro z y hz;by_cases hx:∃ s∈fZ d a,s.x0<=z∧z < s.x1
   ·exact hx
   ·rw[HV (fun s hs=>by
     by_cases h1:z < s.x0
     ·exact .inl h1
     ·right;by_cases h2:z < s.x1
      ·exact absurd ⟨s,hs,by omega,h2⟩ hx
      ·omega)]at hz
    simp[inS]at hz
  have slabEq:∀ s∈fZ d a,∀ z,s.x0<=z->z < s.x1->kT (fZ d a) z=kT (fZ d a) s.x0:=by
   intro s hs z h1 h2;rw[sat,sat];obtain⟨t,ht,rfl⟩:=mem_map.1 hs;obtain⟨m1,m2⟩:=mq rok.runs t ht;rw[<- hcol,<- hcol,m2 z h1 h2];exact (congrArg (fun c=>cS (DI d c)) (m2 t.x0 (Int.le_refl _) m1)).symm
  refine Hz (fun x=>cS (KQ (fZ d a) x d)) (xsL d (fZ d a)) xs x (fun e he hex hc=>?_) (fun hall=>?_) (fun hall=>?_)
  ·refine jN (win e).1 (win x).1 fun y=>?_;rw[bJ,(win e).2,(win x).2];constructor
   ·intro h z hz1 hz2;by_cases hz:z<=e+d
    ·exact h z (by omega) hz
    ·have hE:=h (e+d) (by omega) (Int.le_refl _);obtain⟨s,hs,g1,g2⟩:=slabIn _ _ hE;have:=hc (s.x1 - d) (M6.2 ⟨s,hs,.inr (.inr (.inr rfl))⟩);rw[slabEq s hs z (by omega) (by omega),<- slabEq s hs (e+d) g1 g2];exact hE
   ·intro h z hz1 hz2;by_cases hz:x - d<=z
    ·exact h z hz (by omega)
    ·have hE:=h (x - d) (Int.le_refl _) (by omega);obtain⟨s,hs,g1,g2⟩:=slabIn _ _ hE;have:=hc (s.x0+d) (M6.2 ⟨s,hs,.inl rfl⟩);rw[slabEq s hs z (by omega) (by omega),<- slabEq s hs (x - d) g1 g2];exact hE
  ·refine jN (win x).1 tX fun y=>?_;rw[bJ,(win x).2];constructor
   ·intro h;obtain⟨s,hs,g1,g2⟩:=slabIn _ _ (h (x - d) (Int.le_refl _) (by omega));have:=hall (s.x1+d) (M6.2 ⟨s,hs,.inr (.inl rfl)⟩);omega
   ·intro h;simp[inS]at h
  ·refine jN (win x).1 tX fun y=>?_;rw[bJ,(win x).2];constructor
   ·intro h;obtain⟨s,hs,g1,g2⟩:=slabIn _ _ (h (x+d) (by omega) (Int.le_refl _));have:=hall (s.x0 - d) (M6.2 ⟨s,hs,.inr (.inr (.inl rfl))⟩);omega
   ·intro h;simp[inS]at h
 rw[e];refine⟨(win x).1,fun y=>?_⟩;rw[(win x).2];constructor
 ·intro h u v h1 h2 h3 h4;have:=h u h1 h2;rw[sat,agu h0 (eu hv u).1]at this;rw[<- (eu hv u).2];exact this v h3 h4
 ·intro h z h1 h2;rw[sat,agu h0 (eu hv z).1];intro v h3 h4;rw[(eu hv z).2];exact h z v h1 h2 h3 h4
theorem QU {a r:List aj} {d:Int} (h:nW a d=(r,0)):rightL a=true∧0<=d∧rightL r=true∧∀ x y,aV r x y=true↔∀ u v,x - d<=u->u<=x+d->y - d<=v->v<=y+d->aV a u v=true:=by
 unfold nW at h;by_cases hv:(decide (0<=d)&&(decide (d<=1048576)&&rightL a))=true
 ·rw[aJ hv]at h;simp only[aK,aM]at hv;obtain⟨h0,h1,hr⟩:=hv;by_cases h200:(bD (kH d (fZ d a))).length>200
  ·rw[aJ h200]at h;simp at h
  ·rw[aD h200]at h;simp only[Prod.mk.injEq,and_true]at h;subst h;obtain⟨q1,q2⟩:=agv h0 hr;have hv:=(dV hr).1;refine⟨hr,h0,MX q1 (fun x=>(q2 x).1) (fun x y hxy=>?_) (by omega),fun x y=>?_⟩
   ·have:=((q2 x).2 y).1 hxy x y (by omega) (by omega) (by omega) (by omega);exact mV hv this
   ·rw[Fa q1];exact (q2 x).2 y
 ·rw[aD hv]at h;simp at h
theorem aeT (p:Nat->Bool) (N:Nat):(nR p (List.range N)=none->(List.range N).any p=false)∧(∀ i,nR p (List.range N)=some i->(List.range N).any p=true):=by
 refine⟨fun h=>?_,fun i h=>?_⟩
 ·rw[<- j5,h];rfl
 ·rw[<- j5,h];rfl
theorem uj {W O:Type} {step:Int->Option (Int ⊕ (W ⊕ O))} (N:Nat) (p:Nat->Bool) (w:W) (o:O)
 (h:∀ i,i < N->step (i:Int)=some (bif p i then .inr (.inr o)else .inl ((i+1:Nat):Int)))
 (hend:step (N:Int)=some (.inr (.inl w))) (n:Nat) (hn:N < n):iter step n (0:Int)=some (bif (List.range N).any p then .inr o else .inl w):=by
 have:=jW (l:=List.range N) (step:=step) (fun i=>((i:Nat):Int)) p w (fun _=>o) (fun i hi=>by
  rw[List.length_range]at hi;rw[List.getElem_range];exact h i hi) (by rw[List.length_range];exact hend) n (by rw[List.length_range];exact hn)
 rw[show ((0:Nat):Int)=0 from rfl]at this;rw[this];obtain⟨r1,r2⟩:=aeT p N;cases hf:nR p (List.range N)with
 |none=>rw[r1 hf];rfl
 |some i=>rw[r2 i hf];rfl
theorem HY {n:Nat} {p:List bS} (hl:p.length<=1000) (hn:2000<=n):iter (oZ n p (fV p)) n (0:Int)=some (bif (List.range p.length).any (aeJ p)then .inr false else .inl ()):=by
 refine uj p.length (aeJ p) () false (fun i hi=>?_) ?_ n (by omega)
 ·have nz:(((p.length:Nat):Int) != 0)=true:=by simp;intro h;rw[h]at hi;simp at hi
  have md:(i+1)%p.length < p.length:=Nat.mod_lt _ (by omega);have w:i64.wrap ((i:Int)+1)=((i+1:Nat):Int):=aN (by omega);have g1:at? (fV p) (((0:Nat):Int)+((i:Nat):Int))=some (dI p i):=by rw[dh (by rw[dZ];exact hi),zR]
  have g2:at? (fV p) (((0:Nat):Int)+(((i+1)%p.length:Nat):Int))=some (dI p ((i+1)%p.length)):=by rw[dh (by rw[dZ];exact md),zR]
  obtain⟨r,hr1,hr2⟩:=KM (n:=n) (ptA p 0) (ptA p i) (by omega);have g3:at? p 0=some (ptA p 0):=by rw[Zm (by omega),<- kF]
  have g4:at? p ((i:Nat):Int)=some (ptA p i):=by rw[aY hi,<- kF]
  have dz:decide (((i:Nat):Int)>0)=decide (0 < i):=by rw[bJ];simp
  have pt:bS.mk (dI p i).a_x (dI p i).a_y=ptA p i:=rfl;simp only[oZ,dZ,bG hi,au,bC hi,g1,g2,ah,nz,w,Dy,bC md,pt,MV,lV,lU,g3,g4,hr1,hr2,dz,Option.map_some];unfold aeJ;generalize Jy (ptA p i)=b1;generalize (((dI p i).a_x==(dI p i).b_x)==((dI p i).a_y==(dI p i).b_y))=b2;generalize (upP (dI p i)==upP (dI p ((i+1)%p.length)))=b3;generalize decide (0 < i)=b4;generalize pI (ptA p 0) (ptA p i)=b5;cases b1<;>cases b2<;>cases b3<;>cases b4<;>cases b5<;>rfl
 ·simp only[oZ,dZ,fP,aA]
theorem HZ {n:Nat} {p:List bS} (hl:p.length<=1000) (hn:2000<=n) {i:Nat} (hi:i < p.length):
 iter (iR (fV p) ((i:Nat):Int)) n (((i+2:Nat):Int))=some (bif (List.range p.length).any fun k=>decide (i+2<=k)&&ug p i k then .inr (.inr (.inr false))else .inl ()):=by
 have st:∀ k,k < p.length->iR (fV p) ((i:Nat):Int) ((k:Nat):Int)=some (bif ug p i k then .inr (.inr (.inr (.inr false)))else .inl ((k+1:Nat):Int)):=by
  intro k hk;have g1:at? (fV p) (((0:Nat):Int)+((i:Nat):Int))=some (dI p i):=by rw[dh (by rw[dZ];exact hi),zR]
  have g2:at? (fV p) (((0:Nat):Int)+((k:Nat):Int))=some (dI p k):=by rw[dh (by rw[dZ];exact hk),zR]
  have w:i64.wrap (i64.wrap (((i:Nat):Int)+((p.length:Nat):Int)) - ((k:Nat):Int))=((i+p.length - k:Nat):Int):=by rw[bB (x:=((i:Nat):Int)+((p.length:Nat):Int)),bB (by omega) (by omega)];omega
  have dz:decide (((i+p.length - k:Nat):Int)>1)=decide (i+p.length - k>1):=by rw[bJ,aM,aM];omega
  simp only[iR,dZ,bG hk,au,bC hi,bC hk,g1,g2,ah,w,dz,Dz,lU,Option.map_some,bL k];unfold ug;cases decide (i+p.length - k>1)<;>cases xP (dI p i) (dI p k)<;>rfl
 have main:∀ m k,k+m=p.length->∀ f,m < f->iter (iR (fV p) ((i:Nat):Int)) f ((k:Nat):Int)=some (bif (List.range p.length).any fun j=>decide (k<=j)&&ug p i j then .inr (.inr (.inr false))else .inl ()):=by
  intro m
  induction m with
  |zero=>
   intro k hk f hf;obtain⟨f,rfl⟩:∃ g,f=g+1:=⟨f - 1,by omega⟩;have:k=p.length:=(by omega);subst this;have e:((List.range p.length).any fun j=>decide (p.length<=j)&&ug p i j)=false:=by
    rw[Bool.eq_false_iff];intro h;rw[any_eq_true]at h;obtain⟨j,h1,h2⟩:=h;rw[List.mem_range]at h1;simp only[aK,aM]at h2;omega
   rw[e];refine bF ?_;simp only[iR,dZ,fP,aA]
  |succ m ih=>
   intro k hk f hf;obtain⟨f,rfl⟩:∃ g,f=g+1:=⟨f - 1,by omega⟩;have hkl:k < p.length:=(by omega);have h1:=st k hkl;cases hb:ug p i k with
   |true=>
    rw[hb]at h1;have e:((List.range p.length).any fun j=>decide (k<=j)&&ug p i j)=true:=by
     rw[any_eq_true];exact⟨k,List.mem_range.2 hkl,by simp[hb]⟩
    rw[e];exact bF h1
   |false=>
    rw[hb]at h1;rw[dK h1,ih (k+1) (by omega) f (by omega)];congr 2;rw[bJ,any_eq_true,any_eq_true];constructor
    ·rintro⟨j,j1,j2⟩;simp only[aK,aM]at j2;exact⟨j,j1,by simp only[aK,aM];exact⟨by omega,j2.2⟩⟩
    ·rintro⟨j,j1,j2⟩;simp only[aK,aM]at j2;refine⟨j,j1,?_⟩;simp only[aK,aM];refine⟨?_,j2.2⟩;rcases Nat.lt_or_ge k j with h |h
     ·omega
     ·have:j=k:=(by omega);subst this;rw[hb]at j2;simp at j2
 by_cases h2:i+2<=p.length
 ·exact main (p.length - (i+2)) (i+2) (by omega) n (by omega)
 ·obtain⟨n,rfl⟩:∃ g,n=g+1:=⟨n - 1,by omega⟩;have e:((List.range p.length).any fun j=>decide (i+2<=j)&&ug p i j)=false:=by
   rw[Bool.eq_false_iff];intro h;rw[any_eq_true]at h;obtain⟨j,h1,h2⟩:=h;rw[List.mem_range]at h1;simp only[aK,aM]at h2;omega
  rw[e];have d:decide (((i+2:Nat):Int) < ((p.length:Nat):Int))=false:=by rw[bU];omega
  refine bF ?_;simp only[iR,dZ,d,aA]
theorem H6 {n:Nat} {p:List bS} (hl:p.length<=1000) (hn:2000<=n):iter (o6 n (fV p)) n (0:Int)=some (bif (List.range p.length).any fun i=>(List.range p.length).any fun k=>decide (i+2<=k)&&ug p i k then .inr false else .inl ()):=by
 refine uj p.length _ () false (fun i hi=>?_) ?_ n (by omega)
 ·have w2:i64.wrap ((i:Int)+2)=((i+2:Nat):Int):=by rw[bB (by omega) (by omega)];omega
  simp only[o6,dZ,bG hi,au,w2,HZ hl hn hi,bL i];cases (List.range p.length).any fun k=>decide (i+2<=k)&&ug p i k<;>rfl
 ·simp only[o6,dZ,fP,aA]
theorem Pd {n:Nat} (p:List bS) (hn:2000<=n):vU n p=some (vg p):=by
 unfold vU vg;by_cases h4:p.length < 4
 ·have d1:decide (((p.length:Nat):Int) < 4)=true:=by simp;omega
  have d2:decide (4<=p.length)=false:=by simp;omega
  rw[d1,d2];rfl
 ·have d1:decide (((p.length:Nat):Int) < 4)=false:=by simp;omega
  have d2:decide (4<=p.length)=true:=by simp;omega
  by_cases h60:p.length>60
  ·have d3:decide (((p.length:Nat):Int)>60)=true:=(by simp;omega);have d4:decide (p.length<=60)=false:=(by simp;omega);rw[d1,d2,d3,d4];rfl
  ·have d3:decide (((p.length:Nat):Int)>60)=false:=(by simp;omega);have d4:decide (p.length<=60)=true:=(by simp;omega);have g:at? (fV p) (((0:Nat):Int)+0)=some (dI p 0):=by
    have:=dh (l:=fV p) (i:=0) (by rw[dZ];omega);rw[zR]at this;exact this
   have i0:inb 0 (fV p).length=true:=by
    have:=bC (i:=0) (n:=(fV p).length) (by rw[dZ];omega);simpa using this
   rw[d1,d2,d3,d4];simp only[aA,ah,BD (n:=n) (p:=p) (by omega) (by omega),HY (n:=n) (p:=p) (by omega) hn,Bool.true_and];cases (List.range p.length).any (aeJ p)with
   |true=>rfl
   |false=>
    simp only[aA,fD,H6 (n:=n) (p:=p) (by omega) hn];cases (List.range p.length).any fun i=>(List.range p.length).any fun k=>decide (i+2<=k)&&ug p i k with
    |true=>rfl
    |false=>
     simp only[aA,fD,i0,au,g,ah,lV];rfl
def mW (p:List bS) (x:Int):List Int:=((fV p).filter fun s=>!upP s&&(decide (min s.a_x s.b_x<=x)&&decide (x < max s.a_x s.b_x))).map (·.a_y)
def rX (x0 x1:Int):List Int->List aj
 |a::b::l=>⟨x0,a,x1,b⟩::rX x0 x1 l
 |_=>[]
def xsP (p:List bS):List Int:=uH (p.map (·.x))
def FO (p:List bS):List aj:=(gX (fun a b=>rX a b (gK ltI (mW p a))) (xsP p)).flatten
def nX (p:List bS):List aj×Int:=if vg p=true then (if (FO p).length>200 then ([],6)else (FO p,0))else ([],10)
theorem KU {p:List bS} (h:vg p=true):4<=p.length∧p.length<=60:=by
 unfold vg at h;simp only[aK,aM]at h;exact⟨h.1,h.2.1⟩
theorem uS {n:Nat} {p:List bS} (hl:p.length<=1000) (hn:2000<=n):iter (jc p) n ((0:Int),([]:List Int))=some (p.map (·.x)):=by
 have:=cZ (l:=p) (step:=jc p) (fun i (s:List Int)=>((i:Int),s)) (fun r s=>s++[r.x]) (fun s=>s) (fun i s=>s.length<=i)
  (fun i hi s hs=>?_) (fun s hs=>by simp[jc]) n (by omega) [] (aU _)
 ·rw[show ((0:Nat):Int)=0 from rfl]at this;rw[this];have gen:∀ (ys:List bS) (s:List Int),ys.foldl (fun s r=>s++[r.x]) s=s++ys.map (·.x):=by
   intro ys
   induction ys with
   |nil=>intro s;simp
   |cons y ys ih=>intro s;rw[foldl_cons,ih];simp
  congr 1;simpa using gen p []
 ·have ap:bM s.length s.length (sub ([(p[i]).x]:List Int) 0 1).length 1 8=true:=bI (n:=1);simp only[jc,bG hi,au,aY hi,ah,ap,dH,aC];refine⟨?_,by simp;omega⟩;rw[aN (by omega)];rfl
theorem F6 {n:Nat} {p:List bS} (hl:p.length<=1000) (hn:2000<=n) (es:List Int) (i:Nat) (hi:i < es.length):iter (kr ((),es) (fV p) ((i:Nat):Int)) n ((0:Int),([]:List Int))=some (mW p es[i]):=by
 have:=cZ (l:=fV p) (step:=kr ((),es) (fV p) ((i:Nat):Int)) (fun i (s:List Int)=>((i:Int),s)) (fun r s=>bif !upP r&&(decide (min r.a_x r.b_x<=es[i])&&decide (es[i] < max r.a_x r.b_x))then s++[r.a_y]else s) (fun s=>s) (fun i s=>s.length<=i)
  (fun j hj s hs=>?_) (fun s hs=>by simp[kr]) n (by rw[dZ];omega) [] (aU _)
 ·rw[show ((0:Nat):Int)=0 from rfl]at this;rw[this];have gen:∀ (ys:List jb) (s:List Int),ys.foldl (fun s r=>bif !upP r&&(decide (min r.a_x r.b_x<=es[i])&&decide (es[i] < max r.a_x r.b_x))then s++[r.a_y]else s) s=s++(ys.filter fun s=>!upP s&&(decide (min s.a_x s.b_x<=es[i])&&decide (es[i] < max s.a_x s.b_x))).map (·.a_y):=by
   intro ys
   induction ys with
   |nil=>intro s;simp
   |cons y ys ih=>
    intro s;rw[foldl_cons,ih,List.filter_cons];cases !upP y&&(decide (min y.a_x y.b_x<=es[i])&&decide (es[i] < max y.a_x y.b_x))<;>simp
  congr 1;exact gen (fV p) []
 ·rw[dZ]at hj;have g:at? (fV p) (((0:Nat):Int)+((j:Nat):Int))=some (fV p)[j]:=dh (by rw[dZ];exact hj);have ap:bM s.length s.length (sub ([((fV p)[j]'(by rw[dZ];exact hj)).a_y]:List Int) 0 1).length 1 8=true:=bI (n:=1);generalize hr:(fV p)[j]'(by rw[dZ];exact hj)=r at*;simp only[kr,dZ,bG hj,au,bC hj,g,ah,lV,bC hi,dh hi,lU,ap,dH,aC,bL j];cases upP r<;>cases decide (min r.a_x r.b_x<=es[i])<;>cases decide (es[i] < max r.a_x r.b_x)<;>refine⟨rfl,?_⟩<;>simp<;>omega
theorem Pe (x0 x1:Int):∀ l:List Int,(rX x0 x1 l).length<=l.length
 |[]=>by simp[rX]
 |[_]=>by simp[rX]
 |a::b::l=>by have:=Pe x0 x1 l;simp only[rX,bH];omega
theorem F7 {n:Nat} (es:List Int) (i:Nat) (hi:i+1 < es.length) (he:es.length<=10000) (w2 r8:List Int) (hw:w2.length=r8.length) (hr:r8.length<=1000) (out:List aj) (ho:out.length<=10000000) (hn:2000<=n):
 iter (jd ((),es) ((i:Nat):Int) w2 r8) n ((0:Int),out)=some (out++rX (es[i]'(by omega)) es[i+1] r8):=by
 have main:∀ (m k:Nat) (out:List aj),k+m=r8.length->out.length<=10000000+k->∀ f,m < f->iter (jd ((),es) ((i:Nat):Int) w2 r8) f (((k:Nat):Int),out)=some (out++rX (es[i]'(by omega)) es[i+1] (r8.drop k)):=by
  intro m
  induction m using Nat.strongRecOn with
  |ind m ih=>
   intro k out hk hko f hf;obtain⟨f,rfl⟩:∃ g,f=g+1:=⟨f - 1,by omega⟩;have w1:i64.wrap ((k:Int)+1)=((k+1:Nat):Int):=aN (by omega);have w3:i64.wrap ((k:Int)+2)=((k+2:Nat):Int):=(by rw[bB (by omega) (by omega)];omega);have w4:i64.wrap ((i:Int)+1)=((i+1:Nat):Int):=aN (by omega);by_cases h2:k+1 < r8.length
   ·have d:decide (((k+1:Nat):Int) < ((w2.length:Nat):Int))=true:=(by rw[hw];exact bG h2);have ap:bM out.length out.length (sub ([(aj.mk (es[i]'(by omega)) (r8[k]'(by omega)) es[i+1] r8[k+1])]:List aj) 0 1).length 1 32=true:=bI (n:=1);have st:jd ((),es) ((i:Nat):Int) w2 r8 (((k:Nat):Int),out)=some (.inl (((k+2:Nat):Int),out++[aj.mk (es[i]'(by omega)) (r8[k]'(by omega)) es[i+1] r8[k+1]])):=by
     simp only[jd,w1,w3,w4,d,au,bC (show i < es.length by omega),dh (show i < es.length by omega),ah,bC (show k < w2.length by omega),dh (show k < r8.length by omega),bC hi,dh hi,bC (show k+1 < w2.length by omega),dh h2,ap,dH,aC];rfl
    have dr:r8.drop k=r8[k]::r8[k+1]::r8.drop (k+2):=(by rw[drop_eq_getElem_cons (by omega),drop_eq_getElem_cons h2]);rw[dK st,ih (m - 2) (by omega) (k+2) _ (by omega) (by rw[aZ,length_singleton];omega) f (by omega),dr];simp[rX]
   ·have d:decide (((k+1:Nat):Int) < ((w2.length:Nat):Int))=false:=(by rw[hw,bU];omega);have e:rX (es[i]'(by omega)) es[i+1] (r8.drop k)=[]:=by
     have hl:(r8.drop k).length<=1:=by rw[length_drop];omega
     match r8.drop k,hl with
     |[],_=>rfl
     |[_],_=>rfl
     |_::_::_,h=>simp at h
    rw[e,append_nil];refine bF ?_;simp only[jd,w1,d,aA,aC,au]
 have:=main r8.length 0 out (by omega) (by omega) n (by omega);rw[show ((0:Nat):Int)=0 from rfl,List.drop_zero]at this;exact this
theorem agw (p:List bS):(xsP p).length<=p.length:=by
 have h:=jk (gK ltI (p.map (·.x)));rw[dD,length_map]at h;exact h
theorem zV (p:List bS) (x:Int):(mW p x).length<=p.length:=by
 unfold mW;rw[length_map,<- dZ p];exact length_filter_le _ _
theorem ul {α:Type} (b:Nat):∀ l:List (List α),(∀ x∈l,x.length<=b)->l.flatten.length<=l.length*b
 |[],_=>by simp
 |x::l,h=>by
  have h1:=ul b l fun y hy=>h y (bP _ hy);have h2:=h x mem_cons_self;rw[List.flatten_cons,aZ,bH,Nat.add_mul];omega
theorem F8 {n:Nat} {p:List bS} (hl:p.length<=1000) (hn:2000<=n):
 iter (ku n ((),xsP p) (fV p)) n ((0:Int),([]:List aj))=some (FO p):=by
 have hx:=agw p;obtain⟨p1,p2⟩:=jO (fun a b=>rX a b (gK ltI (mW p a))) (xsP p)
 let C:=gX (fun a b=>rX a b (gK ltI (mW p a))) (xsP p)
 have hC:C.length=(xsP p).length - 1:=p1;have cl:∀ c∈C,c.length<=1000:=by
  intro c hc;obtain⟨i,hi,rfl⟩:=mem_iff_getElem.1 hc;have:=p2 i (by omega) hi;show (C[i]).length<=1000;rw[show C[i]=_ from this];have h1:=Pe (xsP p)[i] (xsP p)[i+1] (gK ltI (mW p (xsP p)[i]));rw[dD]at h1;have h2:=zV p (xsP p)[i];omega
 have bl:∀ i,((C.take i).flatten).length<=1000*1000:=by
  intro i;have h1:=ul 1000 (C.take i) fun x hx=>cl x (List.mem_of_mem_take hx);have h2:(C.take i).length<=1000:=by rw[length_take];omega
  exact Nat.le_trans h1 (Nat.mul_le_mul_right _ h2)
 have main:=d9 (step:=ku n ((),xsP p) (fV p)) (fun i=>(((i:Nat):Int),(C.take i).flatten)) C.length (FO p) (fun i hi=>?_) ?_ n (by omega)
 ·simpa using main
 ·have hi2:i+1 < (xsP p).length:=by omega
  have hw:i64.wrap ((((xsP p).length:Nat):Int) - 1)=((C.length:Nat):Int):=by rw[bB (by omega) (by omega)];omega
  have bi:=bl i;have cr:=zV p (xsP p)[i];have e:C.take (i+1)=C.take i++[rX (xsP p)[i] (xsP p)[i+1] (gK ltI (mW p (xsP p)[i]))]:=by
   rw[dW hi];congr 2;exact p2 i hi2 hi
  simp only[ku,hw,bG hi,au,length_nil,aC,F6 hl hn (xsP p) i (by omega),ah];rw[oJ (by omega) (by omega)];simp only[ah];rw[F7 (xsP p) i hi2 (by omega) (mW p (xsP p)[i]) (gK ltI (mW p (xsP p)[i])) (by rw[dD]) (by rw[dD];omega) _ (by omega) hn];simp only[ah,aC,au,e,List.flatten_append,List.flatten_cons,List.flatten_nil,append_nil,bL i]
 ·have hw:i64.wrap ((((xsP p).length:Nat):Int) - 1)=(((xsP p).length:Nat):Int) - 1:=bB (by omega) (by omega);have d:decide (((C.length:Nat):Int) < (((xsP p).length:Nat):Int) - 1)=false:=by rw[bU];omega
  simp only[ku,hw,d,aA,aC,au,List.take_length];rfl
theorem M8 {n:Nat} (p:List bS) (hn:2000<=n):sZ n p=some (nX p):=by
 unfold sZ nX;rw[Pd p hn];simp only[ah];cases hr:vg p with
 |false=>rfl
 |true=>
  obtain⟨_,hl⟩:=KU hr;simp only[Bool.not_true,aA,length_nil,aC,au,uS (n:=n) (p:=p) (by omega) hn,ah,if_true];rw[oJ (by rw[length_map];omega) (by rw[length_map];omega)];simp only[ah,dD,aC,au];rw[nV (by rw[dD,length_map];omega) (by rw[dD,length_map];omega)];simp only[ah,BD (n:=n) (p:=p) (by omega) (by omega)];have hE:fM (gK ltI (p.map (·.x)))=xsP p:=rfl;rw[hE,F8 (by omega) hn];simp only[ah,bE,aC,au];by_cases h200:(FO p).length>200
  ·have:decide ((((FO p).length:Nat):Int)>200)=true:=(by simp;omega);rw[this,aJ h200];rfl
  ·have:decide ((((FO p).length:Nat):Int)>200)=false:=(by simp;omega);rw[this,aD h200];rfl
theorem acj (p:List bS):(nX p).1.length<=200:=by
 unfold nX;split
 ·split
  ·simp
  ·simp;omega
 ·simp
def ack:l5:=l5.mk 0 0 [] []
def findLot (land:List l5) (id:Int):l5×Bool:=match land.find? fun t=>t.id==id with
 |some t=>(t,true)
 |none=>(ack,false)
theorem UQ {α:Type} (p:α->Bool) (l:List α):(∃ (i:Nat) (h:i < l.length),nR p l=some i∧l.find? p=some l[i])∨(nR p l=none∧l.find? p=none):=by
 rcases uZ p l with ⟨i,hi,h1,h2,h3⟩ |⟨h1,h2⟩
 ·refine .inl ⟨i,hi,h1,?_⟩;rw[List.find?_eq_some_iff_getElem];exact⟨h2,i,hi,rfl,fun j hj=>by simpa using h3 j hj⟩
 ·refine .inr ⟨h1,?_⟩;rw[List.find?_eq_none];intro x hx;rw[h2 x hx];simp
def aiI:List ByteArray:=[⟨#[104,111,109,101]⟩,⟨#[115,104,111,112]⟩,⟨#[119,111,114,107]⟩,⟨#[112,97,114,107]⟩,⟨#[112,108,97,110,116]⟩,⟨#[104,97,108,108]⟩]
def nameOf (use:Int):Option ByteArray:=at? aiI use
def zW (out:List dw) (x:dw):List dw:=
 if x.area=[]then out else match out.getLast? with
 |some q=>if q.z1=x.z0∧q.area=x.area then out.dropLast++[⟨q.z0,x.z1,q.area⟩]else out++[x]
 |none=>[x]
theorem aiJ (out:List dw) (x:dw):(zW out x).length<=out.length+1:=by
 unfold zW;split
 ·omega
 ·split
  ·split
   ·simp only[aZ,List.length_dropLast,length_singleton];omega
   ·simp
  ·simp
structure UR (x:dw):Prop where
 lo:0<=x.z0
 lt:x.z0 < x.z1
 hi:x.z1<=4096
 ne:x.area≠[]
 rt:rightL x.area=true
def UU (s:List dw):Prop:=∀ i (h:i+1 < s.length),s[i].z1<=s[i+1].z0∧¬ (s[i].z1=s[i+1].z0∧s[i].area=s[i+1].area)
theorem UW {s:List dw} {x:dw} (h:UU s) (hx:∀ q∈s.getLast?,q.z1<=x.z0∧¬ (q.z1=x.z0∧q.area=x.area)):UU (s++[x]):=by
 intro i hi;rw[aZ,length_singleton]at hi;by_cases hl:i+1 < s.length
 ·rw[List.getElem_append_left (by omega),List.getElem_append_left hl];exact h i hl
 ·have e:i+1=s.length:=by omega
  rw[List.getElem_append_left (by omega),List.getElem_append_right (by omega)];have:=hx s[i] (by rw[List.getLast?_eq_getElem?];simp[<- e]);simpa using this
theorem aeU {s:List dw} {x:dw} (h:UU (s++[x])):UU s∧∀ q∈s.getLast?,q.z1<=x.z0∧¬ (q.z1=x.z0∧q.area=x.area):=by
 refine⟨fun i hi=>?_,fun q hq=>?_⟩
 ·have:=h i (by rw[aZ];omega);rw[List.getElem_append_left (by omega),List.getElem_append_left hi]at this;exact this
 ·rw[List.getLast?_eq_getElem?]at hq;obtain⟨hl,rfl⟩:=gH.1 hq;have:=h (s.length - 1) (by rw[aZ,length_singleton];omega);rw[List.getElem_append_left (by omega),List.getElem_append_right (by omega)]at this;simpa using this
def badE (E:List aj) (top:Int) (s:List dw):Prop:=∃ c∈s,c.z1>top∧meetL c.area E=true
theorem UX (E:List aj) (top:Int) (a b:List dw):badE E top (a++b)↔badE E top a∨badE E top b:=by
 unfold badE;constructor
 ·rintro⟨c,hc,h⟩;rcases aX.1 hc with hc |hc
  ·exact .inl ⟨c,hc,h⟩
  ·exact .inr ⟨c,hc,h⟩
 ·rintro (⟨c,hc,h⟩ |⟨c,hc,h⟩)
  ·exact⟨c,List.mem_append_left _ hc,h⟩
  ·exact⟨c,List.mem_append_right _ hc,h⟩
theorem M9 (E:List aj) (top:Int) (x:dw):badE E top [x]↔x.z1>top∧meetL x.area E=true:=by
 unfold badE;constructor
 ·rintro⟨c,hc,h⟩;have:c=x:=by simpa using hc
  rw[<- this];exact h
 ·intro h;exact⟨x,by simp,h⟩
theorem ahk {out:List dw} {x:dw} (h1:∀ s∈out,UR s) (h2:UU out) (hx:x.area≠[]->UR x) (hz:x.z0 < x.z1) (hq:∀ q∈out.getLast?,q.z1<=x.z0):
 (∀ s∈zW out x,UR s)∧UU (zW out x)∧(∀ q∈(zW out x).getLast?,q.z1<=x.z1)∧∀ E top,badE E top (zW out x)↔badE E top out∨(x.z1>top∧meetL x.area E=true):=by
 unfold zW;by_cases he:x.area=[]
 ·rw[aJ he];refine⟨h1,h2,fun q h=>by have:=hq q h;omega,fun E top=>?_⟩;have:meetL x.area E=false:=by rw[he];rfl
  rw[this];simp
 ·rw[aD he];have ok:=hx he;rcases List.eq_nil_or_concat out with rfl |⟨o,q,e⟩
  ·refine⟨fun s hs=>by have:s=x:=by simpa using hs
                       rw[this];exact ok,fun i hi=>by simp at hi,fun q h=>by simp at h;subst h;exact Int.le_refl _,fun E top=>?_⟩
   show badE E top [x]↔_;rw[M9];simp[badE]
  ·rw[List.concat_eq_append]at e;subst e;have gl:(o++[q]).getLast? =some q:=(by simp);have dl:(o++[q]).dropLast=o:=(by simp);have hqx:=hq q (by rw[gl];rfl);obtain⟨n1,n2⟩:=aeU h2;have oq:=h1 q (by simp);simp only[gl,dl];by_cases hm:q.z1=x.z0∧q.area=x.area
   ·rw[aJ hm];refine⟨fun s hs=>?_,UW n1 fun p hp=>n2 p hp,fun p hp=>by simp at hp;subst hp;exact Int.le_refl _,fun E top=>?_⟩
    ·rcases aX.1 hs with hs |hs
     ·exact h1 s (List.mem_append_left _ hs)
     ·have:s=⟨q.z0,x.z1,q.area⟩:=(by simpa using hs);subst this;exact⟨oq.lo,Int.lt_trans oq.lt (by show q.z1 < x.z1;rw[hm.1];exact hz),ok.hi,oq.ne,oq.rt⟩
    ·rw[UX,UX,M9,M9];simp only[hm.2];have:=hm.1;constructor
     ·rintro (h |h)
      ·exact .inl (.inl h)
      ·exact .inr h
     ·rintro ((h |⟨h,h'⟩) |h)
      ·exact .inl h
      ·exact .inr ⟨by omega,h'⟩
      ·exact .inr h
   ·rw[aD hm];refine⟨fun s hs=>?_,UW h2 fun p hp=>?_,fun p hp=>by simp at hp;subst hp;exact Int.le_refl _,fun E top=>?_⟩
    ·rcases aX.1 hs with hs |hs
     ·exact h1 s hs
     ·have:s=x:=(by simpa using hs);rw[this];exact ok
    ·rw[gl]at hp;have:p=q:=(by simpa using hp.symm);subst this;exact⟨hqx,hm⟩
    ·rw[UX,M9]
def atS (s:List dw) (z:Int):List aj:=match s.find? fun x=>decide (x.z0<=z)&&decide (z < x.z1)with
 |some x=>x.area
 |none=>[]
theorem H7 {V O:Type} {step:V->Option (V ⊕ O)} (R:Nat->V->Prop) (N:Nat) (Q:O->Prop) (h:∀ i v,i < N->R i v->∃ v',step v=some (.inl v')∧R (i+1) v') (hN:∀ v,R N v->∃ o,step v=some (.inr o)∧Q o):
 ∀ n,N < n->∀ v,R 0 v->∃ o,iter step n v=some o∧Q o:=by
 have main:∀ k i n v,i+k=N->k < n->R i v->∃ o,iter step n v=some o∧Q o:=by
  intro k
  induction k with
  |zero=>
   intro i n v hi hn hR;obtain⟨m,rfl⟩:∃ m,n=m+1:=⟨n - 1,by omega⟩;have:i=N:=(by omega);subst this;obtain⟨o,h1,h2⟩:=hN v hR;exact⟨o,bF h1,h2⟩
  |succ k ih=>
   intro i n v hi hn hR;obtain⟨m,rfl⟩:∃ m,n=m+1:=⟨n - 1,by omega⟩;obtain⟨v',h1,h2⟩:=h i v (by omega) hR;obtain⟨o,h3,h4⟩:=ih (i+1) m v' (by omega) (by omega) h2;exact⟨o,by rw[dK h1,h3],h4⟩
 intro n hn v hR;exact main N 0 n v (by omega) hn hR
def oO (z:l8):List aj:=if (nX z.corners).2=0 then (nX z.corners).1 else []
theorem KV (z:l8):(oO z).length<=200:=by
 unfold oO;split
 ·exact acj _
 ·simp
theorem Ro {n:Nat} (z:l8) (hn:2000<=n):yI n z=some (oO z):=by
 unfold yI oO;rw[M8 _ hn];simp only[ah,bE,aC,au];by_cases h:(nX z.corners).2=0
 ·have:((nX z.corners).2 != 0)=false:=by simp[h]
  rw[this,aJ h];rfl
 ·have:((nX z.corners).2 != 0)=true:=by simp[h]
  rw[this,aD h];rfl
def dJ (a b:aj):aj:=⟨max a.x0 b.x0,max a.y0 b.y0,min a.x1 b.x1,min a.y1 b.y1⟩
theorem Na (a:aj):Dl a=some (bif OkR a then (a,true)else (⟨0,0,0,0⟩,false)):=by
 unfold Dl;rw[ve];simp only[ah,lU]
theorem UY (a b:aj):Bl a b=some (bif OkR a&&(OkR b&&OkR (dJ a b))then (dJ a b,true)else (⟨0,0,0,0⟩,false)):=by
 unfold Bl;rw[ve,ve];simp only[ah,lU];rw[show aj.mk (max a.x0 b.x0) (max a.y0 b.y0) (min a.x1 b.x1) (min a.y1 b.y1)=dJ a b from rfl,Na];simp only[ah];generalize OkR (dJ a b)=c;cases OkR a<;>cases OkR b<;>cases c<;>rfl
def QV (r:aj):Int:=i64.wrap (i64.wrap (r.x1 - r.x0)*i64.wrap (r.y1 - r.y0))
theorem ahl {r:aj} (h:OkR r=true):ZE r=some (QV r):=by
 unfold ZE;rw[Na,h];rfl
def F9 (x:aj) (n:Int) (y:aj):Int:=bif OkR x&&(OkR y&&OkR (dJ x y))then i64.wrap (n+QV (dJ x y))else n
def nY (a b:List aj):Int:=a.foldl (fun n x=>b.foldl (F9 x) n) 0
theorem ajL {α β:Type} (c:Bool) (a:α) (u v:β):(bif c then (a,u)else (a,v)).1=a:=by cases c<;>rfl
theorem H8 {n:Nat} (b:List aj) (x:aj) (hb:b.length<=1000) (hn:2000<=n) (m u v:Int):∃ o,iter (o7 n b x) n (m,(0:Int),u,v)=some o∧o.1=b.foldl (F9 x) m:=by
 refine H7 (fun i (w:Int×Int×Int×Int)=>w.2.1=(i:Int)∧w.1=(b.take i).foldl (F9 x) m) b.length (fun (o:Int×Int×Int)=>o.1=b.foldl (F9 x) m) (fun i w hi hR=>?_) (fun w hR=>?_) n (by omega) _ ⟨rfl,rfl⟩
 ·obtain⟨w1,w2,w3,w4⟩:=w;obtain⟨h1,h2⟩:=hR;simp only at h1 h2;subst h1;have e:(b.take (i+1)).foldl (F9 x) m=F9 x w1 b[i]:=by rw[dW hi,List.foldl_append,<- h2];rfl
  simp only[o7,bG hi,au,aY hi,ah,UY];have e0:F9 x w1 b[i]=bif OkR x&&(OkR b[i]&&OkR (dJ x b[i]))then i64.wrap (w1+QV (dJ x b[i]))else w1:=rfl;rw[e0]at e;cases hc:OkR x&&(OkR b[i]&&OkR (dJ x b[i]))with
  |false=>
   rw[hc]at e;simp only[aA,Bool.not_false,au,ah];exact⟨_,rfl,aN (by omega),e.symm⟩
  |true=>
   rw[hc]at e;have hcc:OkR (dJ x b[i])=true:=by
    revert hc;generalize OkR (dJ x b[i])=c;cases c
    ·cases OkR x<;>cases OkR b[i]<;>simp
    ·simp
   simp only[au,Bool.not_true,aA,ahl hcc,ah,jM];rw[show ∀ u v:Int,sub [u,v] 0 2=[u,v]from fun _ _=>rfl,UF _ _ (by omega)];simp only[ah,lU];simp only[show ∀ u v:Int,eqL [u,v].length 2=true from fun _ _=>rfl,au,ah];refine⟨_,rfl,bL i,?_⟩;rw[e];exact ajL _ _ _ _
 ·obtain⟨w1,w2,w3,w4⟩:=w;obtain⟨h1,h2⟩:=hR;simp only at h1 h2;subst h1;simp only[o7,fP,aA];exact⟨_,rfl,by rw[h2,List.take_length]⟩
theorem Pf {n:Nat} (a b:List aj) (ha:a.length<=1000) (hb:b.length<=1000) (hn:2000<=n):∃ q,vV n a b=some (nY a b,q):=by
 unfold vV;obtain⟨o,h1,h2⟩:=H7 (step:=o8 n a b) (fun i (w:Int×Int×Int×Int)=>w.2.1=(i:Int)∧w.1=(a.take i).foldl (fun n x=>b.foldl (F9 x) n) 0) a.length (fun (o:Int×Int×Int)=>o.1=nY a b) (fun i w hi hR=>by
  obtain⟨w1,w2,w3,w4⟩:=w;obtain⟨h1,h2⟩:=hR;simp only at h1 h2;subst h1;obtain⟨o,g1,g2⟩:=H8 (n:=n) b a[i] hb hn w1 w3 w4;obtain⟨o1,o2,o3⟩:=o;simp only[o8,bG hi,au,aY hi,ah,g1];refine⟨_,rfl,aN (by omega),?_⟩;simp only at g2;rw[dW hi,List.foldl_append,<- h2,g2];rfl) (fun w hR=>by
  obtain⟨w1,w2,w3,w4⟩:=w;obtain⟨h1,h2⟩:=hR;simp only at h1 h2;subst h1;simp only[o8,fP,aA];exact⟨_,rfl,by rw[h2,List.take_length];rfl⟩) n (by omega) (0,0,1048576,0) ⟨rfl,rfl⟩
 obtain⟨o1,o2,o3⟩:=o;simp only at h2;subst h2;exact⟨_,by rw[h1];rfl⟩
def nZ (zs:List l8) (area:List aj):List Int:=bif rightL area then zs.map fun z=>nY area (oO z)else []
theorem Pg {n:Nat} (p:lg) (a:List aj) (hz:p.zones.length<=100) (ha:a.length<=900) (hn:2000<=n):vW n p a=some (nZ p.zones a):=by
 unfold vW nZ;rw[oL (by omega) (by omega) (by omega)];simp only[ah];cases rightL a with
 |false=>rfl
 |true=>
  have:=cZ (l:=p.zones) (step:=o9 n p a) (fun i (s:List Int)=>((i:Int),s)) (fun z s=>s++[nY a (oO z)]) (fun s=>s) (fun i s=>s.length<=i)
   (fun i hi s hs=>?_) (fun s hs=>by simp[o9]) n (by omega) [] (aU _)
  ·rw[show ((0:Nat):Int)=0 from rfl]at this;simp only[Bool.not_true,aA,length_nil,aC,au,this,ah,bE];congr 1;have gen:∀ (ys:List l8) (s:List Int),ys.foldl (fun s z=>s++[nY a (oO z)]) s=s++ys.map fun z=>nY a (oO z):=by
    intro ys
    induction ys with
    |nil=>intro s;simp
    |cons y ys ih=>intro s;rw[foldl_cons,ih];simp
   exact gen p.zones []
  ·have cl:=KV p.zones[i];obtain⟨q,hq⟩:=Pf (n:=n) a (oO p.zones[i]) (by omega) (by omega) hn;have ap:bM s.length s.length (sub ([nY a (oO p.zones[i])]:List Int) 0 1).length 1 8=true:=bI (n:=1);simp only[o9,bG hi,au,aY hi,ah,Ro _ hn,bE,aC,hq,ap,dH];refine⟨?_,by simp;omega⟩;rw[aN (by omega)];rfl
theorem H9 (zs:List l8) (a:List aj):(nZ zs a).length<=zs.length:=by
 unfold nZ;cases rightL a<;>simp
def iM (zs:List l8) (l:List Int) (m:Nat):Int:=(List.range m).foldl (fun (b:Int) i=>if (!((zs.getD i ⟨⟨#[]⟩,false,[]⟩).overlay)&&(decide (l.getD i 0>0)&&(decide (b < 0) || decide (l.getD i 0>l.getD b.toNat 0))))=true then (i:Int)else b) (-1)
def mX (zs:List l8) (l:List Int) (i:Nat):Bool:=decide ((i:Int)=iM zs l l.length) || ((zs.getD i ⟨⟨#[]⟩,false,[]⟩).overlay&&decide (l.getD i 0>0))
def ofZ (zs:List l8) (area:List aj):List ByteArray:=((List.range (nZ zs area).length).filter (mX zs (nZ zs area))).map fun i=>(zs.getD i ⟨⟨#[]⟩,false,[]⟩).name
theorem QW (zs:List l8) (l:List Int):∀ m,iM zs l m= -1∨∃ k:Nat,k < m∧iM zs l m=(k:Int)
 | 0=> .inl rfl
 |m+1=>by
  have ih:=QW zs l m;unfold iM;rw[List.range_succ,List.foldl_append];simp only[foldl_cons,List.foldl_nil];split
  ·exact .inr ⟨m,by omega,rfl⟩
  ·rcases ih with h |⟨k,h1,h2⟩
   ·exact .inl h
   ·exact .inr ⟨k,by omega,h2⟩
theorem qP {α:Type} {l:List α} {i:Nat} (d:α) (h:i < l.length):l.getD i d=l[i]:=by simp[h]
theorem Ph {n:Nat} (p:lg) (l:List Int) (hl:l.length<=p.zones.length) (hz:p.zones.length<=100) (hn:2000<=n):iter (pq p l) n (((-1):Int),(0:Int))=some (iM p.zones l l.length):=by
 have main:=d9 (step:=pq p l) (fun i=>(iM p.zones l i,((i:Nat):Int))) l.length (iM p.zones l l.length) (fun i hi=>?_) (by simp[pq]) n (by omega)
 ·exact main
 ·have hz':i < p.zones.length:=by omega
  have e:iM p.zones l (i+1)=if (!(p.zones[i]).overlay&&(decide (l[i]>0)&&(decide (iM p.zones l i < 0) || decide (l[i]>l.getD (iM p.zones l i).toNat 0))))=true then (i:Int)else iM p.zones l i:=by
   conv=>lhs;unfold iM
   rw[List.range_succ,List.foldl_append];simp only[foldl_cons,List.foldl_nil,qP _ hz',qP _ hi];rfl
  rw[e];rcases QW p.zones l i with h |⟨k,h1,h2⟩
  ·rw[h];have d:decide ((-1:Int) < 0)=true:=rfl;simp only[pq,bG hi,au,bC hi,dh hi,ah,aY hz',d,lU,Bool.true_or,Bool.and_true,bL i];cases (p.zones[i]).overlay<;>cases decide (l[i]>0)<;>rfl
  ·rw[h2];have d:decide (((k:Nat):Int) < 0)=false:=(by simp);have hk:k < l.length:=(by omega);simp only[pq,bG hi,au,bC hi,dh hi,ah,aY hz',d,lU,Bool.false_or,aA,bC hk,dh hk,Int.toNat_natCast,qP _ hk,bL i];cases (p.zones[i]).overlay<;>cases decide (l[i]>0)<;>cases decide (l[i]>l[k])<;>rfl
theorem ZP {n:Nat} (p:lg) (a:List aj) (hz:p.zones.length<=100) (ha:a.length<=900) (hn:2000<=n):Jh n p a=some (ofZ p.zones a):=by
 unfold Jh;have sl:=H9 p.zones a;rw[Pg p a hz ha hn];simp only[ah];rw[Ph p _ sl hz hn];simp only[ah,length_nil,aC,au];unfold ofZ;generalize hL:nZ p.zones a=l at*
 have:=cZ (l:=List.range l.length) (step:=yJ p l (iM p.zones l l.length)) (fun i (s:List ByteArray)=>((i:Int),s)) (fun i s=>bif mX p.zones l i then s++[(p.zones.getD i ⟨⟨#[]⟩,false,[]⟩).name]else s) (fun s=>s) (fun i s=>s.length<=i)
  (fun i hi s hs=>?_) (fun s hs=>by rw[List.length_range];simp[yJ]) n (by rw[List.length_range];omega) [] (aU _)
 ·rw[show ((0:Nat):Int)=0 from rfl]at this;simp only[this,ah,bE,aC,au];congr 1;have gen:∀ (ys:List Nat) (s:List ByteArray),ys.foldl (fun s i=>bif mX p.zones l i then s++[(p.zones.getD i ⟨⟨#[]⟩,false,[]⟩).name]else s) s=s++(ys.filter (mX p.zones l)).map fun i=>(p.zones.getD i ⟨⟨#[]⟩,false,[]⟩).name:=by
   intro ys
   induction ys with
   |nil=>intro s;simp
   |cons y ys ih=>
    intro s;rw[foldl_cons,ih,List.filter_cons];cases mX p.zones l y<;>simp
  exact gen (List.range l.length) []
 ·rw[List.length_range]at hi;have hz':i < p.zones.length:=by omega
  rw[List.getElem_range];have ap:bM s.length s.length (sub ([(p.zones[i]).name]:List ByteArray) 0 1).length 1 16=true:=bI (n:=1);have hb:(((i:Nat):Int)==iM p.zones l l.length)=decide (((i:Nat):Int)=iM p.zones l l.length):=by rw[bJ];simp
  simp only[yJ,bG hi,au,bC hi,dh hi,ah,aY hz',hb,lU,ap,dH,aC,mX,qP _ hz',qP _ hi,bL i];cases decide (((i:Nat):Int)=iM p.zones l l.length)<;>cases (p.zones[i]).overlay<;>cases decide (l[i]>0)<;>refine⟨rfl,?_⟩<;>simp<;>omega
theorem agx (zs:List l8) (a:List aj):(ofZ zs a).length<=zs.length:=by
 unfold ofZ;rw[length_map];have h1:=length_filter_le (mX zs (nZ zs a)) (List.range (nZ zs a).length);rw[List.length_range]at h1;have:=H9 zs a;omega
def sEq (a b:ByteArray):Bool:=ByteArray.toList a==ByteArray.toList b
theorem Ga {n:Nat} {l:List ByteArray} {a:ByteArray} (hl:l.length < 1099511627776) (hn:l.length < n):mK n l a=some (l.any (sEq a)):=by
 unfold mK;have e:xM n l a=Zo n (fun x=>ByteArray.toList a==ByteArray.toList x) l:=by kernel_rfl
 rw[e,abX hl hn,ah,Sv];rfl
theorem p8 {n:Nat} {l:List ByteArray} {φ:(ByteArray×Unit)->Option Bool} (p:ByteArray->Bool) (h:∀ x∈l,φ (x,())=some (p x)) (hl:l.length < 1099511627776) (hn:l.length < n):fU n l φ=some (l.any p):=by
 unfold fU;have e:qh n l φ=wL n l φ:=by kernel_rfl
 rw[e,xH p h hl hn,ah,Sv]
def Nb (r:eD) (zs:List ByteArray):Bool:=(decide (r.zones=[]) || r.zones.any fun z=>zs.any (sEq z))&&!(r.except.any fun z=>zs.any (sEq z))
theorem Pj {n:Nat} (r:eD) (zs:List ByteArray) (h1:r.zones.length<=100) (h2:r.except.length<=100) (h3:zs.length<=100) (hn:2000<=n):qC n r zs=some (Nb r zs):=by
 have hf:∀ x:ByteArray,jE n x zs=some (zs.any (sEq x)):=fun x=>by unfold jE;rw[Ga (by omega) (by omega)];rfl
 unfold qC Nb;rw[p8 (fun z=>zs.any (sEq z)) (fun x _=>hf x) (by omega) (by omega),p8 (fun z=>zs.any (sEq z)) (fun x _=>hf x) (by omega) (by omega)];simp only[ah,lU];have e:(((r.zones.length:Nat):Int)==0)=decide (r.zones=[]):=by
  rw[bJ,beq_iff_eq,aM];constructor
  ·intro h;exact List.length_eq_zero_iff.1 (by omega)
  ·intro h;rw[h];rfl
 rw[e];cases decide (r.zones=[])<;>cases (r.zones.any fun z=>zs.any (sEq z))<;>cases (r.except.any fun z=>zs.any (sEq z))<;>rfl
def fG (zs:List ByteArray) (day:Int) (r:eD):Bool:=decide (r.from_<=day)&&((r.until_==0 || decide (day < r.until_))&&Nb r zs)
def xQ (rules:List eD) (zs:List ByteArray) (day:Int):List Nat:=(List.range rules.length).filter fun i=>(rules[i]?).any (fG zs day)
abbrev ZQ (r:eD):Prop:=r.zones.length<=100∧r.except.length<=100
theorem Rp {n:Nat} (p:lg) (zs:List ByteArray) (day:Int) (hr:∀ r∈p.rules,ZQ r) (hl:p.rules.length<=100) (h3:zs.length<=100) (hn:2000<=n):yK n p zs day=some ((xQ p.rules zs day).map fun (i:Nat)=>(i:Int)):=by
 unfold yK xQ
 have:=cZ (l:=List.range p.rules.length) (step:=qZ n p zs day) (fun i (s:List Int)=>((i:Int),s)) (fun i s=>bif (p.rules[i]?).any (fG zs day)then s++[((i:Nat):Int)]else s) (fun s=>s) (fun i s=>s.length<=i)
  (fun i hi s hs=>?_) (fun s hs=>by rw[List.length_range];simp[qZ]) n (by rw[List.length_range];omega) [] (aU _)
 ·rw[show ((0:Nat):Int)=0 from rfl]at this;simp only[length_nil,aC,au,this,ah,bE];congr 1;have gen:∀ (ys:List Nat) (s:List Int),ys.foldl (fun s i=>bif (p.rules[i]?).any (fG zs day)then s++[((i:Nat):Int)]else s) s=s++(ys.filter fun i=>(p.rules[i]?).any (fG zs day)).map fun (i:Nat)=>(i:Int):=by
   intro ys
   induction ys with
   |nil=>intro s;simp
   |cons y ys ih=>
    intro s;rw[foldl_cons,ih,List.filter_cons];cases (p.rules[y]?).any (fG zs day)<;>simp
  exact gen (List.range p.rules.length) []
 ·rw[List.length_range]at hi;rw[List.getElem_range];obtain⟨o1,o2⟩:=hr _ (getElem_mem hi);have ap:bM s.length s.length (sub ([((i:Nat):Int)]:List Int) 0 1).length 1 8=true:=bI (n:=1);have eg:(p.rules[i]?).any (fG zs day)=fG zs day p.rules[i]:=by rw[gG hi];rfl
  rw[eg];simp only[qZ,bG hi,au,aY hi,ah,Pj _ zs o1 o2 h3 hn,lU,ap,dH,aC,fG,bL i];cases decide ((p.rules[i]).from_<=day)<;>cases (p.rules[i]).until_==0<;>cases decide (day < (p.rules[i]).until_)<;>cases Nb p.rules[i] zs<;>refine⟨rfl,?_⟩<;>simp<;>omega
def JJ (p:bR):Bool:=decide (0<=p.side∧p.side<=3)&&(decide (0<=p.base∧p.base<=4096)&&(decide (0<=p.num∧p.num<=4096)&&decide (1<=p.den∧p.den<=4096)))
theorem Ia (p:bR):JJ p=true↔(0<=p.side∧p.side<=3)∧(0<=p.base∧p.base<=4096)∧(0<=p.num∧p.num<=4096)∧(1<=p.den∧p.den<=4096):=by simp only[JJ,aK,aM]
theorem FP (a b c:Int):kC a b c=some (decide (b<=a∧a<=c)):=by
 unfold kC;by_cases h1:b<=a
 ·have d:decide (b<=a)=true:=by simpa using h1
  rw[d,au];congr 1;rw[bJ];simp[h1]
 ·have d:decide (b<=a)=false:=by simpa using h1
  rw[d,aA];congr 1;rw[bJ];simp[h1]
theorem UZ (p:bR):Bo p=some (JJ p):=by
 unfold Bo JJ;simp only[FP,ah,lU];generalize decide (0<=p.side∧p.side<=3)=a;generalize decide (0<=p.base∧p.base<=4096)=b;generalize decide (0<=p.num∧p.num<=4096)=c;cases a<;>cases b<;>cases c<;>rfl
theorem Ck {n:Nat} {l:List bR} {φ:(bR×Unit)->Option Bool} (p:bR->Bool) (h:∀ x∈l,φ (x,())=some (p x)) (hl:l.length < 1099511627776) (hn:l.length < n):jQ n l φ=some (l.any p):=by
 unfold jQ;have e:rF n l φ=wL n l φ:=by kernel_rfl
 rw[e,xH p h hl hn,ah,Sv]
def pK (b:aj) (l:List bR):Bool:=OkR b&&!(l.any fun p=>!JJ p)
theorem U0 {n:Nat} (b:aj) (l:List bR) (hl:l.length<=1000) (hn:2000<=n):Bp n b l=some (pK b l):=by
 unfold Bp pK;rw[ve,Ck (fun p=>!JJ p) (fun p _=>by show tL p=_;unfold tL;rw[UZ];rfl) (by omega) (by omega)];simp only[ah,lU];cases OkR b<;>rfl
theorem aeV {a n:Int} (hn:0 < n):(if Int.tmod a n < 0 then Int.tdiv a n - 1 else Int.tdiv a n)=a/n:=by
 have h1:=Int.mul_ediv_add_emod a n;have h2:=Int.emod_nonneg a (by omega:n≠0);have h3:=Int.emod_lt_of_pos a hn;rcases Int.le_total 0 a with h |h
 ·have e1:Int.tmod a n=a%n:=Int.tmod_eq_emod_of_nonneg h;have e2:Int.tdiv a n=a/n:=Int.tdiv_eq_ediv_of_nonneg h;rw[e1,e2,aD (by omega)]
 ·obtain⟨b,rfl⟩:∃ b,a= -b:=⟨-a,by omega⟩;have hb:0<=b:=by omega
  have e1:Int.tmod (-b) n= -(b%n):=by rw[Int.neg_tmod,Int.tmod_eq_emod_of_nonneg hb]
  have e2:Int.tdiv (-b) n= -(b/n):=by rw[Int.neg_tdiv,Int.tdiv_eq_ediv_of_nonneg hb]
  have g1:=Int.mul_ediv_add_emod b n;have g2:=Int.emod_nonneg b (by omega:n≠0);have g3:=Int.emod_lt_of_pos b hn;rw[e1,e2];by_cases hm:b%n=0
  ·rw[aD (by omega)];have:(-b)/n= -(b/n):=by
    refine (Int.ediv_eq_iff_of_pos hn).2 ?_;constructor
    ·rw[Int.neg_mul,Int.mul_comm (b/n)];omega
    ·rw[Int.neg_mul,Int.mul_comm (b/n)];omega
   omega
  ·rw[aJ (by omega)];have:(-b)/n= -(b/n) - 1:=by
    refine (Int.ediv_eq_iff_of_pos hn).2 ?_;constructor
    ·rw[Int.sub_mul,Int.neg_mul,Int.mul_comm (b/n)];omega
    ·rw[Int.sub_mul,Int.neg_mul,Int.mul_comm (b/n)];omega
   omega
theorem Nc {a n:Int} (hn:0 < n) (ha: -4611686018427387904<=a∧a<=4611686018427387904):tN a n=some (a/n):=by
 have nz:(n != 0)=true:=by simp;omega
 have hb: -4611686018427387904<=a/n∧a/n<=4611686018427387904:=by
  constructor
  ·rw[Int.le_ediv_iff_mul_le hn];have: -4611686018427387904*n<= -4611686018427387904:=(by omega);omega
  ·rcases Int.le_total 0 a with h |h
   ·have:=Int.ediv_le_self n h;omega
   ·have:a/n<=0:=by
     have:=(Int.ediv_lt_iff_lt_mul (a:=a) (b:=1) hn).2 (by omega);omega
    omega
 have hf:=aeV (a:=a) hn;have ht: -4611686018427387904<=Int.tdiv a n∧Int.tdiv a n<=4611686018427387905:=by split at hf<;>omega
 unfold tN;simp only[nz,au];rw[bB (x:=Int.tdiv a n),bB (x:=Int.tdiv a n - 1),<- hf];by_cases h:Int.tmod a n < 0
 ·have d:decide (Int.tmod a n < 0)=true:=by simpa using h
  rw[d,aJ h];rfl
 ·have d:decide (Int.tmod a n < 0)=false:=by simpa using h
  rw[d,aD h];rfl
def QX (b:aj) (side x y:Int):Int:=if side=0 then x - b.x0 else if side=1 then b.x1 - 1 - x else if side=2 then y - b.y0 else b.y1 - 1 - y
def ZR (b:aj) (p:bR) (x y:Int):Int:=p.base+p.num*QX b p.side x y/p.den
abbrev InG (x y:Int):Prop:=(0<=x∧x < 1048576)∧(0<=y∧y < 1048576)
theorem Pk {a d:Int} (ha:0<=a∧a<=4096) (hd: -1048576<=d∧d<=1048576): -4294967296<=a*d∧a*d<=4294967296:=by
 have h1:a*d<=a*1048576:=Int.mul_le_mul_of_nonneg_left hd.2 ha.1;have h2:a*(-1048576)<=a*d:=Int.mul_le_mul_of_nonneg_left hd.1 ha.1;omega
theorem Pm {a n:Int} (hn:0 < n) (ha: -4294967296<=a∧a<=4294967296): -4294967296<=a/n∧a/n<=4294967296:=by
 constructor
 ·rw[Int.le_ediv_iff_mul_le hn];omega
 ·rcases Int.le_total 0 a with h |h
  ·have:=Int.ediv_le_self n h;omega
  ·have:=(Int.ediv_lt_iff_lt_mul (a:=a) (b:=1) hn).2 (by omega);omega
theorem QY (b:aj) (l:List bR):pK b l=true↔OkR b=true∧∀ p∈l,JJ p=true:=by
 unfold pK;rw[aK,Bool.not_eq_true',List.any_eq_false];simp
def asks (b:aj) (z:Int) (p:bR) (x y:Int):Prop:=(z - p.base)*p.den<=p.num*QX b p.side x y
theorem DL {b:aj} {z:Int} {p:bR} (hp:JJ p=true) (x y:Int):asks b z p x y↔z<=ZR b p x y:=by
 obtain⟨s1,s2,s3,s4⟩:=(Ia _).1 hp;unfold asks ZR;have:=Int.le_ediv_iff_mul_le (a:=z - p.base) (b:=p.num*QX b p.side x y) (c:=p.den) (by omega);rw[<- this];omega
theorem ajM {k d n m:Int} (hn:0 < n):(k*m<=n*d)↔ -((-k)*m/n)<=d:=by
 have:=Int.le_ediv_iff_mul_le (a:= -d) (b:=(-k)*m) (c:=n) hn;rw[show (-((-k)*m/n)<=d)↔ -d<=(-k)*m/n by omega,this,Int.neg_mul,Int.neg_mul,Int.mul_comm d n];omega
abbrev St4:=Int×Int×Int×Int
def Ib (s:St4):aj:=⟨s.1,s.2.1,s.2.2.1,s.2.2.2⟩
def um (b:aj) (z:Int) (p:bR) (s:St4):St4 ⊕ ((Int×Int×Int×Int) ⊕ (aj×Bool)):=
 if p.num=0 then (if z>p.base then .inr (.inr (⟨0,0,0,0⟩,false))else .inl s)
 else if p.side=0 then .inl (max s.1 (b.x0+ -((p.base - z)*p.den/p.num)),s.2.1,s.2.2.1,s.2.2.2)
 else if p.side=1 then .inl (s.1,s.2.1,min s.2.2.1 (b.x1 - -((p.base - z)*p.den/p.num)),s.2.2.2)
 else if p.side=2 then .inl (s.1,max s.2.1 (b.y0+ -((p.base - z)*p.den/p.num)),s.2.2.1,s.2.2.2)
 else .inl (s.1,s.2.1,s.2.2.1,min s.2.2.2 (b.y1 - -((p.base - z)*p.den/p.num)))
theorem U1 {n:Nat} {b:aj} {l:List bR} {z:Int} (hb:OkR b=true) (hp:∀ p∈l,JJ p=true) (hz:0<=z∧z<=4096) (hl:l.length<=1000) (hn:2000<=n) (s:St4):
 iter (qD b l z) n ((0:Int),s)=some (sK (um b z) (fun s=> .inl s) l s):=by
 have hr:=hb;simp only[OkR,aK,aM]at hr;have:=X3 (l:=l) (step:=qD b l z) (fun i (s:St4)=>(((i:Nat):Int),s)) (um b z) (fun s=> .inl s) (fun i hi s=>?_) (fun s=>?_) n (by omega) s
 ·exact this
 ·obtain⟨v2,v3,v4,v5⟩:=s;obtain⟨s1,s2,s3,s4⟩:=(Ia _).1 (hp _ (getElem_mem hi));have mb:=Pk (a:=(l[i]).den) (d:=(l[i]).base - z) (by omega) (by omega);rw[Int.mul_comm]at mb;simp only[qD,bG hi,au,aY hi,ah];rw[bB (x:=(l[i]).base - z),bB (x:=((l[i]).base - z)*(l[i]).den)];unfold um;by_cases h0:(l[i]).num=0
  ·have e0:((l[i]).num==0)=true:=(by simpa using h0);rw[e0,aJ h0];by_cases hzb:z>(l[i]).base
   ·have d:decide (z>(l[i]).base)=true:=(by simpa using hzb);rw[aJ hzb];simp only[au,d];rfl
   ·have d:decide (z>(l[i]).base)=false:=(by simpa using hzb);rw[aD hzb];simp only[au,aA,d,fD,bL i]
  ·have e0:((l[i]).num==0)=false:=(by simpa using h0);have dv:=Pm (n:=(l[i]).num) (by omega) mb;rw[e0,aD h0];simp only[aA];rw[Nc (by omega) (by omega)];simp only[ah];generalize ((l[i]).base - z)*(l[i]).den/(l[i]).num=q at*;rw[bB (x:=0 - q),Int.zero_sub,bB (x:=b.x0+ -q),bB (x:=b.x1 - -q),bB (x:=b.y0+ -q),bB (x:=b.y1 - -q)];have hs:(l[i]).side=0∨(l[i]).side=1∨(l[i]).side=2∨(l[i]).side=3:=(by omega);rcases hs with e |e |e |e<;>rw[e]<;>simp[bL i]
 ·obtain⟨v2,v3,v4,v5⟩:=s;simp only[qD,fP,aA]
def aj7 (b:aj) (z:Int) (l:List bR) (s:St4):Prop:=
    (∃ t,sK (um b z) (fun s=>(.inl s:(Int×Int×Int×Int) ⊕ (aj×Bool))) l s= .inl t∧(s.1<=t.1∧s.2.1<=t.2.1∧t.2.2.1<=s.2.2.1∧t.2.2.2<=s.2.2.2)∧∀ x y,iC (Ib t) x y=true↔iC (Ib s) x y=true∧∀ p∈l,asks b z p x y)∨
    (sK (um b z) (fun s=>(.inl s:(Int×Int×Int×Int) ⊕ (aj×Bool))) l s= .inr (⟨0,0,0,0⟩,false)∧∃ p∈l,∀ x y,¬ asks b z p x y)
theorem dL (r:aj) (x y:Int):iC r x y=true↔(r.x0<=x∧x < r.x1)∧(r.y0<=y∧y < r.y1):=by simp only[iC,aK,aM]
theorem KW {b:aj} {z:Int}:∀ (l:List bR),(∀ p∈l,JJ p=true)->∀ s:St4,aj7 b z l s
 |[],_,s=> .inl ⟨s,rfl,⟨Int.le_refl _,Int.le_refl _,Int.le_refl _,Int.le_refl _⟩,fun x y=>by simp⟩
 |p::l,hp,s=>by
  have hp0:=hp p mem_cons_self;have ih:=KW (b:=b) (z:=z) l fun q hq=>hp q (bP _ hq);obtain⟨s1,s2,s3,s4⟩:=(Ia _).1 hp0;have go:∀ s':St4,um b z p s= .inl s'->(s.1<=s'.1∧s.2.1<=s'.2.1∧s'.2.2.1<=s.2.2.1∧s'.2.2.2<=s.2.2.2)->(∀ x y,iC (Ib s') x y=true↔iC (Ib s) x y=true∧asks b z p x y)->aj7 b z (p::l) s:=fun s' hf hb' he=>by
   have hl:sK (um b z) (fun s=>(.inl s:(Int×Int×Int×Int) ⊕ (aj×Bool))) (p::l) s=sK (um b z) (fun s=>(.inl s:(Int×Int×Int×Int) ⊕ (aj×Bool))) l s':=(by simp only[sK,hf]);rcases ih s' with ⟨t,t1,t2,t3⟩ |⟨t1,q,hq,t2⟩
   ·exact .inl ⟨t,by rw[hl,t1],⟨by omega,by omega,by omega,by omega⟩,fun x y=>by
     rw[t3,he];simp only[aI,forall_eq_or_imp,and_assoc]⟩
   ·exact .inr ⟨by rw[hl,t1],q,bP _ hq,t2⟩
  by_cases h0:p.num=0
  ·by_cases hz:z>p.base
   ·refine .inr ⟨?_,p,mem_cons_self,fun x y ha=>?_⟩
    ·have hf:um b z p s= .inr (.inr (⟨0,0,0,0⟩,false)):=(by unfold um;rw[aJ h0,aJ hz]);simp only[sK,hf]
    ·unfold asks at ha;rw[h0,Int.zero_mul]at ha;have:0 < (z - p.base)*p.den:=Int.mul_pos (by omega) (by omega);omega
   ·refine go s (by unfold um;rw[aJ h0,aD hz]) ⟨Int.le_refl _,Int.le_refl _,Int.le_refl _,Int.le_refl _⟩ fun x y=>?_;have:asks b z p x y:=by
     unfold asks;rw[h0,Int.zero_mul];have:=Int.mul_nonneg (a:=p.base - z) (b:=p.den) (by omega) (by omega);rw[show z - p.base= -(p.base - z)by omega,Int.neg_mul];omega
    simp[this]
  ·have hn:0 < p.num:=(by omega);have key:∀ x y,asks b z p x y↔ -((p.base - z)*p.den/p.num)<=QX b p.side x y:=fun x y=>by
    unfold asks;rw[ajM hn,show -(z - p.base)=p.base - z by omega]
   have hs:p.side=0∨p.side=1∨p.side=2∨p.side=3:=(by omega);generalize hq:(p.base - z)*p.den/p.num=q at key;rcases hs with e |e |e |e
   ·refine go (max s.1 (b.x0+ -q),s.2.1,s.2.2.1,s.2.2.2) (by unfold um;rw[aD h0,aJ e,hq]) ⟨by simp only;omega,Int.le_refl _,Int.le_refl _,Int.le_refl _⟩ fun x y=>?_;rw[key];simp only[dL,Ib,QX,e,if_true];omega
   ·refine go (s.1,s.2.1,min s.2.2.1 (b.x1 - -q),s.2.2.2) (by unfold um;rw[aD h0,aD (by omega),aJ e,hq]) ⟨Int.le_refl _,Int.le_refl _,by simp only;omega,Int.le_refl _⟩ fun x y=>?_;rw[key];simp only[dL,Ib,QX,e,aD (show ¬ (1:Int)=0 by omega),if_true];omega
   ·refine go (s.1,max s.2.1 (b.y0+ -q),s.2.2.1,s.2.2.2) (by unfold um;rw[aD h0,aD (by omega),aD (by omega),aJ e,hq]) ⟨Int.le_refl _,by simp only;omega,Int.le_refl _,Int.le_refl _⟩ fun x y=>?_;rw[key];simp only[dL,Ib,QX,e,aD (show ¬ (2:Int)=0 by omega),aD (show ¬ (2:Int)=1 by omega),if_true];omega
   ·refine go (s.1,s.2.1,s.2.2.1,min s.2.2.2 (b.y1 - -q)) (by unfold um;rw[aD h0,aD (by omega),aD (by omega),aD (by omega),hq]) ⟨Int.le_refl _,Int.le_refl _,Int.le_refl _,by simp only;omega⟩ fun x y=>?_;rw[key];simp only[dL,Ib,QX,e,aD (show ¬ (3:Int)=0 by omega),aD (show ¬ (3:Int)=1 by omega),aD (show ¬ (3:Int)=2 by omega)];omega
theorem ak8 (x y:Int):iC (Ib (0,0,1048576,1048576)) x y=true↔InG x y:=by
 show ((decide (0<=x)&&decide (x < 1048576))&&(decide (0<=y)&&decide (y < 1048576)))=true↔_;simp only[aK,aM]
theorem Rq {n:Nat} (b:aj) (l:List bR) {z:Int} (hz:1<=z∧z<=4096) (hl:l.length<=1000) (hn:2000<=n):
 ∃ r,ER n b l z=some r∧r.1.length<=1∧(∀ q∈r.1,OkR q=true)∧∀ x y,aV r.1 x y=true↔pK b l=true∧InG x y∧∀ p∈l,z<=ZR b p x y:=by
 unfold ER;rw[U0 b l hl hn];simp only[ah];cases hv:pK b l with
 |false=>exact⟨_,rfl,by simp,by simp,fun x y=>by simp[aV]⟩
 |true=>
  obtain⟨v1,v2⟩:=(QY b l).1 hv;have dz:decide (0<=z∧z<=4096)=true:=by simp;omega
  have ez:(z==0)=false:=by simp;omega
  simp only[Bool.not_true,aA,FP,dz,ah,ez];unfold KF;rw[show ((0:Int),gv0.x0,gv0.y0,gv0.x1,gv0.y1)=((0:Int),((0,0,1048576,1048576):St4))from rfl,U1 v1 v2 (by omega) hl hn];rcases KW (b:=b) (z:=z) l v2 (0,0,1048576,1048576)with ⟨⟨t1,t2,t3,t4⟩,h1,h2,h3⟩ |⟨h1,p,hp,h2⟩
  ·rw[h1];simp only[fD,lU,ah];simp only at h2;have h3':∀ x y,iC ⟨t1,t2,t3,t4⟩ x y=true↔InG x y∧∀ p∈l,z<=ZR b p x y:=fun x y=>by
    have:=h3 x y;rw[show Ib (t1,t2,t3,t4)=⟨t1,t2,t3,t4⟩from rfl]at this;rw[this,ak8];constructor
    ·rintro⟨a,b⟩;exact⟨a,fun p hp=>(DL (v2 p hp) x y).1 (b p hp)⟩
    ·rintro⟨a,b⟩;exact⟨a,fun p hp=>(DL (v2 p hp) x y).2 (b p hp)⟩
   by_cases hx:t1 < t3
   ·have dx:decide (t1 < t3)=true:=(by simpa using hx);simp only[dx,au];by_cases hy:t2 < t4
    ·have dy:decide (t2 < t4)=true:=(by simpa using hy);simp only[dy,au];refine⟨([aj.mk t1 t2 t3 t4],0),rfl,by simp,fun q hq=>?_,fun x y=>?_⟩
     ·rw[aO.1 hq];simp only[OkR,aK,aM];omega
     ·rw[show aV [aj.mk t1 t2 t3 t4] x y=iC ⟨t1,t2,t3,t4⟩ x y by simp[aV,iC],h3'];simp
    ·have dy:decide (t2 < t4)=false:=(by simpa using hy);simp only[dy,aA];refine⟨_,rfl,by simp,by simp,fun x y=>?_⟩;have h0:iC ⟨t1,t2,t3,t4⟩ x y=false:=(by simp only[iC];rw[Bool.and_eq_false_iff];right;rw[Bool.and_eq_false_iff,bU,bU];omega);have:=h3' x y;rw[h0]at this;simp only[aV,List.any_nil,Bool.false_eq_true,false_iff,true_and];exact fun h=>by have:=this.2 h;cases this
   ·have dx:decide (t1 < t3)=false:=(by simpa using hx);simp only[dx,aA];refine⟨_,rfl,by simp,by simp,fun x y=>?_⟩;have h0:iC ⟨t1,t2,t3,t4⟩ x y=false:=(by simp only[iC];rw[Bool.and_eq_false_iff];left;rw[Bool.and_eq_false_iff,bU,bU];omega);have:=h3' x y;rw[h0]at this;simp only[aV,List.any_nil,Bool.false_eq_true,false_iff,true_and];exact fun h=>by have:=this.2 h;cases this
  ·rw[h1];simp only[OI,ah,aA];refine⟨_,rfl,by simp,by simp,fun x y=>?_⟩;simp only[aV,List.any_nil,Bool.false_eq_true,false_iff,true_and];rintro⟨_,h⟩;exact h2 x y ((DL (v2 p hp) x y).2 (h p hp))
end Go.Proofs
