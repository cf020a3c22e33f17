/-
  What the printed functions of package slices and cmp come to.
-/
import Derived.Test.YtbdekfpclohfnaaGreatTD2
open Go.IntKind (i64)
open Option (bind_some)
open List (map_cons mem_cons mem_append length_take mem_map all_eq_true mem_singleton nil_append length_append getElem_mem length_cons length_map append_nil length_nil take_succ_eq_append_getElem foldl_cons any_eq_true mem_cons_self length_singleton pairwise_cons map_nil filter_append length_filter_le map_append pairwise_append getElem_drop)
open Bool (and_eq_true)
namespace Go.Proofs
open Go.Gb Go.RowKit
abbrev ltI (a b:Int):Bool:=decide (a < b)
theorem Px (a b:Int):cmp_Less_int a b=some (ltI a b):=by simp[cmp_Less_int,cmp_isNaN_int]
theorem yL (a b:Int):cmp_Compare_int a b=some (if a < b then -1 else if b < a then 1 else 0):=by
 by_cases h1:a < b
 ·simp[cmp_Compare_int,cmp_isNaN_int,h1]
 ·by_cases h2:b < a
  ·simp[cmp_Compare_int,cmp_isNaN_int,h1,h2]
  ·simp[cmp_Compare_int,cmp_isNaN_int,h1,h2]
theorem UF {x:Nat} (k:Nat) (h:2 ^ k<=x):Go.Sort.bitsLen x=Go.Sort.bitsLen (x/2 ^ k)+k:=by
 have key:∀ m,Go.Sort.bitsLen x<=m+k↔Go.Sort.bitsLen (x/2 ^ k)<=m:=by
  intro m;rw[Go.Sort.bitsLen_le_iff,Go.Sort.bitsLen_le_iff,Nat.pow_add,Nat.div_lt_iff_lt_mul (Nat.two_pow_pos k)]
 have h1:=(key (Go.Sort.bitsLen (x/2 ^ k))).2 (Nat.le_refl _);have hk:k<=Go.Sort.bitsLen x:=by
  rcases Nat.lt_or_ge (Go.Sort.bitsLen x) k with hlt |hge
  ·have:=(Go.Sort.bitsLen_le_iff x (Go.Sort.bitsLen x)).1 (Nat.le_refl _);have h2:2 ^ Go.Sort.bitsLen x<=2 ^ k:=Nat.pow_le_pow_right (by omega) (by omega);omega
  ·exact hge
 have h2:=(key (Go.Sort.bitsLen x - k)).1 (by omega);omega
theorem ahu {v:Nat} (h:v < 256):IntKind.u8.wrap ((v:Nat):Int)=(v:Int):=by
 simp only[IntKind.wrap,IntKind.bits,IntKind.signed,Bool.false_and,Bool.false_eq_true,if_false];omega
set_option maxRecDepth 100000 in
theorem uY {x:Nat} (hx:x < 1152921504606846976):bits_Len (x:Int)=some ((Go.Sort.bitsLen x:Nat):Int):=by
 unfold bits_Len bits_Len64;have tab:∀ v:Fin 256,Vs (⟨#[0,1,2,2,3,3,3,3,4,4,4,4,4,4,4,4,5,5,5,5,5,5,5,5,5,5,5,5,5,5,5,5,6,6,6,6,6,6,6,6,6,6,6,6,6,6,6,6,6,6,6,6,6,6,6,6,6,6,6,6,6,6,6,6,7,7,7,7,7,7,7,7,7,7,7,7,7,7,7,7,7,7,7,7,7,7,7,7,7,7,7,7,7,7,7,7,7,7,7,7,7,7,7,7,7,7,7,7,7,7,7,7,7,7,7,7,7,7,7,7,7,7,7,7,7,7,7,7,8,8,8,8,8,8,8,8,8,8,8,8,8,8,8,8,8,8,8,8,8,8,8,8,8,8,8,8,8,8,8,8,8,8,8,8,8,8,8,8,8,8,8,8,8,8,8,8,8,8,8,8,8,8,8,8,8,8,8,8,8,8,8,8,8,8,8,8,8,8,8,8,8,8,8,8,8,8,8,8,8,8,8,8,8,8,8,8,8,8,8,8,8,8,8,8,8,8,8,8,8,8,8,8,8,8,8,8,8,8,8,8,8,8,8,8,8,8,8,8,8,8,8,8,8,8,8,8]⟩) ((v.val:Nat):Int)=some ((Go.Sort.bitsLen v.val:Nat):Int):=by decide +kernel
 have k32:(decide (0<=32)&&decide (32<=IntKind.u64.bits))=true:=rfl;have k16:(decide (0<=16)&&decide (16<=IntKind.u64.bits))=true:=rfl;have k8:(decide (0<=8)&&decide (8<=IntKind.u64.bits))=true:=rfl;have step:∀ (x k s:Nat),∃ y t:Nat,((bif (decide ((x:Int)>=((2 ^ k:Nat):Int)))then some (((x/2 ^ k:Nat):Int),((s+k:Nat):Int))else some ((x:Int),(s:Int))):Option (Int×Int))=some ((y:Int),(t:Int))∧Go.Sort.bitsLen x+s=Go.Sort.bitsLen y+t∧(y < 2 ^ k∨y=x/2 ^ k)∧t<=s+k:=by
  intro x k s;by_cases h:2 ^ k<=x
  ·have c:decide ((x:Int)>=((2 ^ k:Nat):Int))=true:=(by rw[decide_eq_true_eq];omega);refine⟨x/2 ^ k,s+k,by rw[c];rfl,?_,.inr rfl,Nat.le_refl _⟩;have:=UF k h;omega
  ·have c:decide ((x:Int)>=((2 ^ k:Nat):Int))=false:=(by rw[decide_eq_false_iff_not];omega);exact⟨x,s,by rw[c];rfl,rfl,.inl (by omega),by omega⟩
 have sh:∀ (v k:Nat),((v:Int)/2 ^ ((k:Nat):Int).toNat)=((v/2 ^ k:Nat):Int):=by
  intro v k;rw[Int.toNat_natCast]
  push_cast
  rfl
 obtain⟨y1,t1,e1,b1,c1,d1⟩:=step x 32 0;obtain⟨y2,t2,e2,b2,c2,d2⟩:=step y1 16 t1;obtain⟨y3,t3,e3,b3,c3,d3⟩:=step y2 8 t2;have s1:((bif (decide ((x:Int)>=(4294967296:Int)))then bif ((decide (0<=32)&&decide (32<=IntKind.u64.bits)))then some (((x:Int)/2 ^ (32:Int).toNat),(32:Int))else none else some ((x:Int),(0:Int))):Option (Int×Int))=some ((y1:Int),(t1:Int)):=by
  rw[k32,<- e1];rw[show ((x:Int)/2 ^ (32:Int).toNat)=((x/2 ^ 32:Nat):Int)from sh x 32];rfl
 have s2:((bif (decide ((y1:Int)>=(65536:Int)))then bif ((decide (0<=16)&&decide (16<=IntKind.u64.bits)))then some (((y1:Int)/2 ^ (16:Int).toNat),(i64.wrap ((t1:Int)+16)))else none else some ((y1:Int),(t1:Int))):Option (Int×Int))=some ((y2:Int),(t2:Int)):=by
  rw[k16,<- e2];rw[show ((y1:Int)/2 ^ (16:Int).toNat)=((y1/2 ^ 16:Nat):Int)from sh y1 16,show i64.wrap ((t1:Int)+16)=((t1+16:Nat):Int)from Ns (j:=16) (by omega)];rfl
 have s3:((bif (decide ((y2:Int)>=(256:Int)))then bif ((decide (0<=8)&&decide (8<=IntKind.u64.bits)))then some (((y2:Int)/2 ^ (8:Int).toNat),(i64.wrap ((t2:Int)+8)))else none else some ((y2:Int),(t2:Int))):Option (Int×Int))=some ((y3:Int),(t3:Int)):=by
  rw[k8,<- e3];rw[show ((y2:Int)/2 ^ (8:Int).toNat)=((y2/2 ^ 8:Nat):Int)from sh y2 8,show i64.wrap ((t2:Int)+8)=((t2+8:Nat):Int)from Ns (j:=8) (by omega)];rfl
 have hy:y3 < 256:=by
  have q1:(2:Nat) ^ 32=4294967296:=rfl;have q2:(2:Nat) ^ 16=65536:=rfl;have q3:(2:Nat) ^ 8=256:=rfl;rw[q1]at c1;rw[q2]at c2;rw[q3]at c3;omega
 simp only[s1,bind_some,s2,s3];rw[ahu hy,show Vs _ ((y3:Nat):Int)=_ from tab ⟨y3,hy⟩];have hb:Go.Sort.bitsLen y3<=8:=(Go.Sort.bitsLen_le_iff _ _).2 (by simpa using hy);simp only[bind_some];rw[oF (by omega),Ns (by omega)];congr 2;omega
theorem acG:VY aK:=by
 intro L h8 hL;have hb:Go.Sort.bitsLen L<=60:=(Go.Sort.bitsLen_le_iff _ _).2 (by omega);have hp:2 ^ Go.Sort.bitsLen L<=2 ^ 60:=Nat.pow_le_pow_right (by omega) hb;unfold aK;rw[kV (by omega),uY hL,bind_some];have c:(decide ((0:Int)<=((Go.Sort.bitsLen L:Nat):Int))&&decide (((Go.Sort.bitsLen L:Nat):Int)<=((IntKind.u64.bits:Nat):Int)))=true:=by
  have:((IntKind.u64.bits:Nat):Int)=64:=rfl;rw[this,and_eq_true,decide_eq_true_eq,decide_eq_true_eq];omega
 rw[c,cond_true,Int.toNat_natCast,Int.one_mul,show ((2:Int) ^ Go.Sort.bitsLen L)=((2 ^ Go.Sort.bitsLen L:Nat):Int)by push_cast;rfl,kV (by omega)]
theorem acH:SF aL:=by
 intro r hr;have c13:(decide (0<=13)&&decide (13<=IntKind.u64.bits))=true:=rfl;have c7:(decide (0<=7)&&decide (7<=IntKind.u64.bits))=true:=rfl;have c17:(decide (0<=17)&&decide (17<=IntKind.u64.bits))=true:=rfl;have sl:∀ (v k:Nat),IntKind.u64.wrap ((v:Int)*2 ^ ((k:Nat):Int).toNat)=((v*2 ^ k%18446744073709551616:Nat):Int):=by
  intro v k;rw[Int.toNat_natCast,show ((v:Int)*2 ^ k)=((v*2 ^ k:Nat):Int)by push_cast;rfl];simp only[IntKind.wrap,IntKind.bits,IntKind.signed,Bool.false_and,Bool.false_eq_true,if_false];omega
 have sr:∀ (v k:Nat),((v:Int)/2 ^ ((k:Nat):Int).toNat)=((v/2 ^ k:Nat):Int):=by
  intro v k;rw[Int.toNat_natCast];push_cast;rfl
 have ha:r ^^^ (r*2 ^ 13%18446744073709551616) < 18446744073709551616:=Nat.xor_lt_two_pow (n:=64) (by omega) (by omega);have hb:(r ^^^ (r*2 ^ 13%18446744073709551616)) ^^^ ((r ^^^ (r*2 ^ 13%18446744073709551616))/2 ^ 7) < 18446744073709551616:=Nat.xor_lt_two_pow (n:=64) (by omega) (by omega);unfold aL;rw[c13,c7,c17];simp only[cond_true];rw[show IntKind.u64.wrap ((r:Int)*2 ^ (13:Int).toNat)=((r*2 ^ 13%18446744073709551616:Nat):Int)from sl r 13,SC hr (by omega)];rw[show (((r ^^^ (r*2 ^ 13%18446744073709551616):Nat):Int)/2 ^ (7:Int).toNat)=_ from sr _ 7,SC ha (by omega)];rw[show IntKind.u64.wrap (((((r ^^^ (r*2 ^ 13%18446744073709551616)) ^^^ ((r ^^^ (r*2 ^ 13%18446744073709551616))/2 ^ 7):Nat)):Int)*2 ^ (17:Int).toNat)=_ from sl _ 17,SC hb (by omega)];rfl
theorem Qx:Go.Sort.SWO ltI where
 irrefl x:=by simp[ltI]
 trans x y z h1 h2:=by simp only[ltI,decide_eq_true_eq]at *;omega
 ntrans x y z h1 h2:=by simp only[ltI,decide_eq_false_iff_not]at *;omega
theorem V7:∀ {l m:List Int},l.Perm m->l.Pairwise (fun x y=>ltI y x=false)->m.Pairwise (fun x y=>ltI y x=false)->l=m
 |[],m,h,_,_=>(List.nil_perm.1 h).symm
 |x::l,[],h,_,_=>by have:=h.length_eq;simp at this
 |x::l,y::m,h,h1,h2=>by
  have e:x=y:=by
   rw[pairwise_cons]at h1 h2;have m1:x∈y::m:=h.mem_iff.1 mem_cons_self;have m2:y∈x::l:=h.mem_iff.2 mem_cons_self;rcases mem_cons.1 m1 with e |m1
   ·exact e
   ·rcases mem_cons.1 m2 with e |m2
    ·exact e.symm
    ·have a:=h1.1 y m2;have b:=h2.1 x m1;simp only[ltI,decide_eq_false_iff_not]at a b;omega
  subst e;rw[pairwise_cons]at h1 h2;rw[V7 (List.Perm.cons_inv h) h1.2 h2.2]
theorem Hu {α:Type} (lt:α->α->Bool) (x:α):∀ ys:List α,(kz lt x ys).Perm (x::ys)
 |[]=>List.Perm.refl _
 |y::ys=>by
  simp only[kz];cases lt x y with
  |true=>exact ((Hu lt x ys).cons y).trans (List.Perm.swap x y ys)
  |false=>exact List.Perm.refl _
theorem J2 {α:Type} (lt:α->α->Bool) (l:List α):(rX lt l).Perm l:=by
 have gen:∀ (xs rs:List α),(xs.foldl (fun rs x=>kz lt x rs) rs).Perm (xs++rs):=by
  intro xs
  induction xs with
  |nil=>intro rs;exact List.Perm.refl _
  |cons x xs ih=>
   intro rs;refine (ih _).trans ?_;refine ((Hu lt x rs).append_left xs).trans ?_;exact List.perm_middle
 unfold rX;exact (List.reverse_perm _).trans (by simpa using gen l [])
theorem insRev_sorted {α:Type} {lt:α->α->Bool} (hS:Go.Sort.SWO lt) (x:α):∀ ys:List α,ys.Pairwise (fun a b=>lt a b=false)->(kz lt x ys).Pairwise fun a b=>lt a b=false
 |[],_=>by simp[kz]
 |y::ys,h=>by
  have h':=pairwise_cons.1 h;simp only[kz];cases hxy:lt x y with
  |true=>
   rw[cond_true,pairwise_cons];refine⟨fun z hz=>?_,insRev_sorted hS x ys h'.2⟩;rcases mem_cons.1 ((Hu lt x ys).mem_iff.1 hz)with rfl |hz
   ·cases hyx:lt y z with
    |false=>rfl
    |true=>have:=hS.trans _ _ _ hxy hyx;rw[hS.irrefl]at this;cases this
   ·exact h'.1 z hz
  |false=>
   rw[cond_false,pairwise_cons];refine⟨fun z hz=>?_,h⟩;rcases mem_cons.1 hz with rfl |hz
   ·exact hxy
   ·exact hS.ntrans _ _ _ hxy (h'.1 z hz)
theorem isort_sorted {α:Type} {lt:α->α->Bool} (hS:Go.Sort.SWO lt) (l:List α):(rX lt l).Pairwise fun x y=>lt y x=false:=by
 have gen:∀ (xs rs:List α),rs.Pairwise (fun a b=>lt a b=false)->(xs.foldl (fun rs x=>kz lt x rs) rs).Pairwise fun a b=>lt a b=false:=by
  intro xs
  induction xs with
  |nil=>intro rs h;exact h
  |cons x xs ih=>intro rs h;exact ih _ (insRev_sorted hS x rs h)
 unfold rX;rw[List.pairwise_reverse];exact gen l [] List.Pairwise.nil
theorem adI (l:List Int):rY ltI l=rX ltI l:=
 V7 ((yA Qx l).trans (J2 ltI l).symm) (Et Qx l) (isort_sorted Qx l)
theorem Zo (n:Nat):∀ m,eu n m=dS cmp_Less_int (fun r=>r) aK aL n m
 | 0=>rfl
 |m+1=>by
  show jW n (eu n m)=gm cmp_Less_int (fun r=>r) aK aL n (dS cmp_Less_int (fun r=>r) aK aL n m);rw[Zo n m];generalize dS cmp_Less_int (fun r=>r) aK aL n m=rc
  kernel_rfl
theorem yM {n:Nat} {l:List Int} (hl:l.length < 1099511627776) (hn:l.length < n):p9 n l=some (rX ltI l):=by
 unfold p9 lm;rw[kV (by omega),uY (by omega),Zo];simp only[bind_some,aA,cond_true];rw[qC (lt:=ltI) Qx (f:=ltI) (q:=fun r=>r) Px (fun _ _=>rfl) acG acH (by omega) hn hn,adI];rfl
theorem AY {n:Nat} {l:List Int} (hl:l.length < 1099511627776) (hn:l.length < n):qI n l=some ((),l9 l):=by
 rw[<- Zk];exact Jz (eq:=fun x y=>x==y) (ne:=fun x y=>x != y) (fun x y=>by simp[bne]) hl hn
theorem Nz {l:List au} (h:l.length < 1099511627776):Bt l=some l:=uL (b:=32) (by omega) (by simp only[maxLen];omega)
theorem vP {l:List Int} (h:l.length < 1099511627776):kG l=some l:=uL (b:=8) (by omega) (by simp only[maxLen];omega)
theorem LV {n:Nat} {l:List (List au)} (hf:l.flatten.length < 1099511627776) (hl:l.length < 1099511627776) (hn:l.length < n):yD n l=some l.flatten:=Xy (au.mk 0 0 0 0) (b:=32) hf (by omega) hl hn
theorem NA {n:Nat} {a b:List au} (hl:a.length < 1099511627776) (hn:a.length < n):oK n a b=some (decide (a=b)):=by
 have e:oK n a b=Qq n (fun x1 x2:au=>!((x1.x0==(x2.x0:Int))&&((x1.y0==(x2.y0:Int))&&((x1.x1==(x2.x1:Int))&&((x1.y1==(x2.y1:Int))&&true))))) a b:=by kernel_rfl
 rw[e];refine O8 (fun x y=>?_) hl hn;obtain⟨a,b,c,d⟩:=x;obtain⟨e,f,g,h⟩:=y;simp only[au.mk.injEq,Bool.and_true];rw[Bool.eq_iff_iff];simp
theorem C8 {n:Nat} {a b:List aG} (hl:a.length < 1099511627776) (hn:a.length < n):um n a b=some (decide (a=b)):=by
 have e:um n a b=Qq n (fun x1 x2:aG=>!((x1.from_==(x2.from_:Int))&&((x1.to==(x2.to:Int))&&true))) a b:=by kernel_rfl
 rw[e];refine O8 (fun x y=>?_) hl hn;obtain⟨a,b⟩:=x;obtain⟨c,d⟩:=y;simp only[aG.mk.injEq,Bool.and_true];rw[Bool.eq_iff_iff];simp
abbrev ltS (a b:aG):Bool:=decide (a.from_ < b.from_)
theorem LW:Go.Sort.SWO ltS where
 irrefl x:=by simp[ltS]
 trans x y z h1 h2:=by simp only[ltS,decide_eq_true_eq]at *;omega
 ntrans x y z h1 h2:=by simp only[ltS,decide_eq_false_iff_not]at *;omega
instance:Inhabited aG:=⟨⟨0,0⟩⟩
theorem adJ (n:Nat) (rc:List aG->Int->Int->Int->((aG×aG×Unit)->Option Int)->Option (List aG)) (φ:(aG×aG×Unit)->Option Int) (l:List aG) (a b d:Int):gy n rc l a b d φ=gm (fun x y=>φ (x,y,())) (fun r=>decide (r < 0)) aK aL n (fun l a b d=>rc l a b d φ) l a b d:=by kernel_rfl
theorem V8 (n:Nat) (φ:(aG×aG×Unit)->Option Int):∀ m l a b d,cK n m l a b d φ=dS (fun x y=>φ (x,y,())) (fun r=>decide (r < 0)) aK aL n m l a b d
 | 0,l,a,b,d=>rfl
 |m+1,l,a,b,d=>by
  have e:(fun l a b d=>cK n m l a b d φ)=dS (fun x y=>φ (x,y,())) (fun r=>decide (r < 0)) aK aL n m:=by
   funext l a b d;exact V8 n φ m l a b d
  show gy n (cK n m) l a b d φ=gm (fun x y=>φ (x,y,())) (fun r=>decide (r < 0)) aK aL n (dS (fun x y=>φ (x,y,())) (fun r=>decide (r < 0)) aK aL n m) l a b d;rw[<- e];exact adJ n (cK n m) φ l a b d
theorem I6 {n:Nat} {l:List aG} {φ:(aG×aG×Unit)->Option Int} (f:aG->aG->Int) (hφ:∀ x y,φ (x,y,())=some (f x y)) (hf:∀ x y,decide (f x y < 0)=ltS x y) (hl:l.length < 1099511627776) (hn:l.length < n):mZ n l φ=some (rY ltS l):=by
 unfold mZ kH;rw[kV (by omega),uY (by omega)];simp only[bind_some,aA,cond_true,V8];rw[qC (lt:=ltS) LW (f:=f) (q:=fun r=>decide (r < 0)) hφ hf acG acH (by omega) hn hn];rfl
def mrg (out:List aG) (s:aG):List aG:=
 match out.getLast? with
 |some q=>bif decide (s.from_<=q.to)then out.dropLast++[⟨q.from_,max q.to s.to⟩]else out++[s]
 |none=>[s]
theorem SS (out:List aG) (s:aG):(mrg out s).length<=out.length+1:=by
 unfold mrg;cases out.getLast? with
 |none=>simp
 |some q=>simp only;cases decide (s.from_<=q.to)<;>simp<;>omega
theorem abf (o:List aG) (q s:aG):mrg (o++[q]) s=bif decide (s.from_<=q.to)then o++[⟨q.from_,max q.to s.to⟩]else o++[q]++[s]:=by simp[mrg]
abbrev OkS (s:aG):Prop:=s.from_ < s.to
def inS (l:List aG) (y:Int):Bool:=l.any fun s=>decide (s.from_<=y)&&decide (y < s.to)
def Can (l:List aG):Prop:=l.Pairwise (fun a b=>a.to < b.from_)∧∀ s∈l,OkS s
theorem XI (l:List aG) (y:Int):inS l y=true↔∃ s∈l,s.from_<=y∧y < s.to:=by simp[inS]
theorem ED (l m:List aG) (y:Int):inS (l++m) y=(inS l y || inS m y):=by simp[inS]
theorem IG (y:Int):inS [] y=false:=rfl
theorem mD (s:aG) (l:List aG) (y:Int):inS (s::l) y=((decide (s.from_<=y)&&decide (y < s.to)) || inS l y):=by simp[inS]
theorem Zp {l m:List aG} (h:l.Perm m) (y:Int):inS l y=inS m y:=by
 rw[Bool.eq_iff_iff,XI,XI];exact⟨fun ⟨s,hs,h1⟩=>⟨s,h.mem_iff.1 hs,h1⟩,fun⟨s,hs,h1⟩=>⟨s,h.mem_iff.2 hs,h1⟩⟩
theorem acI:Can []:=⟨List.Pairwise.nil,by simp⟩
theorem afb {out:List aG} {s:aG} (hc:Can out) (hs:OkS s) (hb:∀ o∈out,o.from_<=s.from_):
 Can (mrg out s)∧(∀ o∈mrg out s,o.from_<=s.from_)∧∀ y,inS (mrg out s) y=(inS out y || inS [s] y):=by
 rcases List.eq_nil_or_concat out with rfl |⟨o,q,rfl⟩
 ·refine⟨⟨by simp[mrg],by simp[mrg];exact hs⟩,by simp[mrg],fun y=>by simp[mrg,inS]⟩
 ·rw[List.concat_eq_append]at*;obtain⟨h1,h2⟩:=hc;rw[pairwise_append]at h1;obtain⟨p1,_,p3⟩:=h1;have hq:OkS q:=h2 q (by simp);have hqs:q.from_<=s.from_:=hb q (by simp);rw[abf];by_cases hj:s.from_<=q.to
  ·simp only[hj,decide_true,cond_true];refine⟨⟨?_,?_⟩,?_,?_⟩
   ·rw[pairwise_append];refine⟨p1,by simp,fun a ha b hb'=>?_⟩;rw[mem_singleton]at hb';subst hb';exact p3 a ha q (by simp)
   ·intro a ha;rcases mem_append.1 ha with ha |ha
    ·exact h2 a (by simp[ha])
    ·rw[mem_singleton]at ha;subst ha;show q.from_ < max q.to s.to;have:q.from_ < q.to:=hq;omega
   ·intro a ha;rcases mem_append.1 ha with ha |ha
    ·exact hb a (by simp[ha])
    ·rw[mem_singleton]at ha;subst ha;exact hqs
   ·intro y;rw[ED,ED,Bool.or_assoc];congr 1;simp only[mD,IG,Bool.or_false];rw[Bool.eq_iff_iff];simp only[and_eq_true,Bool.or_eq_true,decide_eq_true_eq];have:q.from_ < q.to:=hq;have:s.from_ < s.to:=hs;omega
  ·simp only[hj,decide_false,cond_false];refine⟨⟨?_,?_⟩,?_,?_⟩
   ·rw[pairwise_append];refine⟨?_,by simp,fun a ha b hb'=>?_⟩
    ·rw[pairwise_append];exact⟨p1,by simp,p3⟩
    ·rw[mem_singleton]at hb';subst hb';rcases mem_append.1 ha with ha |ha
     ·have:=p3 a ha q (by simp);have:q.from_ < q.to:=hq;omega
     ·rw[mem_singleton]at ha;subst ha;omega
   ·intro a ha;rcases mem_append.1 ha with ha |ha
    ·exact h2 a ha
    ·rw[mem_singleton]at ha;subst ha;exact hs
   ·intro a ha;rcases mem_append.1 ha with ha |ha
    ·exact hb a ha
    ·rw[mem_singleton]at ha;subst ha;exact Int.le_refl _
   ·intro y;rw[ED]
theorem NC:∀ (l out:List aG),Can out->(∀ s∈l,OkS s)->l.Pairwise (fun x y=>x.from_<=y.from_)->(∀ o∈out,∀ s∈l,o.from_<=s.from_)->Can (l.foldl mrg out)∧∀ y,inS (l.foldl mrg out) y=(inS out y || inS l y)
 |[],out,hc,_,_,_=>⟨hc,fun y=>by simp[IG]⟩
 |s::l,out,hc,hv,hp,hb=>by
  rw[pairwise_cons]at hp;obtain⟨m1,m2,m3⟩:=afb hc (hv s (by simp)) (fun o ho=>hb o ho s (by simp));obtain⟨f1,f2⟩:=NC l (mrg out s) m1 (fun t ht=>hv t (by simp[ht])) hp.2 (fun o ho t ht=>Int.le_trans (m2 o ho) (hp.1 t ht));refine⟨f1,fun y=>?_⟩;rw[foldl_cons,f2,m3,Bool.or_assoc,<- ED];rfl
theorem Zq {a:aG} {l:List aG} (h:Can (a::l)):Can l:=⟨(pairwise_cons.1 h.1).2,fun s hs=>h.2 s (by simp[hs])⟩
theorem II {a:aG} {l:List aG} (h:Can (a::l)) {y:Int} (hy:inS l y=true):a.to < y:=by
 obtain⟨s,hs,h1,_⟩:=(XI _ _).1 hy;have:=(pairwise_cons.1 h.1).1 s hs;omega
theorem V9 {a:aG} {l:List aG} (h:Can (a::l)) {y:Int} (hy:inS (a::l) y=true):a.from_<=y:=by
 rw[mD,Bool.or_eq_true]at hy;rcases hy with hy |hy
 ·simp only[and_eq_true,decide_eq_true_eq]at hy;exact hy.1
 ·have:=II h hy;have:a.from_ < a.to:=h.2 a (by simp);omega
theorem SV:∀ {l m:List aG},Can l->Can m->(∀ y,inS l y=inS m y)->l=m
 |[],[],_,_,_=>rfl
 |[],b::m,_,hm,h=>by
  have:=h b.from_;have hb:b.from_ < b.to:=hm.2 b (by simp);rw[IG,mD]at this;simp[hb]at this
 |a::l,[],hl,_,h=>by
  have:=h a.from_;have ha:a.from_ < a.to:=hl.2 a (by simp);rw[IG,mD]at this;simp[ha]at this
 |a::l,b::m,hl,hm,h=>by
  have ha:a.from_ < a.to:=hl.2 a (by simp);have hb:b.from_ < b.to:=hm.2 b (by simp);have ina:inS (a::l) a.from_=true:=by rw[mD];simp[ha]
  have inb':inS (b::m) b.from_=true:=by rw[mD];simp[hb]
  have e1:a.from_=b.from_:=by
   have h1:=V9 hm (by rw[<- h];exact ina);have h2:=V9 hl (by rw[h];exact inb');omega
  have nl:∀ (c:aG) (k:List aG),Can (c::k)->inS (c::k) c.to=false:=by
   intro c k hk;cases hc:inS (c::k) c.to with
   |false=>rfl
   |true=>
    rw[mD,Bool.or_eq_true]at hc;rcases hc with hc |hc
    ·simp at hc
    ·have:=II hk hc;omega
  have e2:a.to=b.to:=by
   rcases Int.lt_trichotomy a.to b.to with hlt |he |hlt
   ·have h1:=nl a l hl;rw[h,mD]at h1;simp only[Bool.or_eq_false_iff,Bool.and_eq_false_iff,decide_eq_false_iff_not]at h1;omega
   ·exact he
   ·have h1:=nl b m hm;rw[<- h,mD]at h1;simp only[Bool.or_eq_false_iff,Bool.and_eq_false_iff,decide_eq_false_iff_not]at h1;omega
  have e:a=b:=by cases a;cases b;simp only at e1 e2;rw[e1,e2]
  subst e;rw[SV (Zq hl) (Zq hm) fun y=>?_];have hy:=h y;rw[mD,mD]at hy;cases h1:inS l y with
  |true=>
   have:=II hl h1;have z:(decide (a.from_<=y)&&decide (y < a.to))=false:=(by rw[Bool.and_eq_false_iff,decide_eq_false_iff_not,decide_eq_false_iff_not];omega);rw[z,h1,Bool.false_or,Bool.false_or]at hy;rw[<- hy]
  |false=>
   cases h2:inS m y with
   |false=>rfl
   |true=>
    have:=II hm h2;have z:(decide (a.from_<=y)&&decide (y < a.to))=false:=(by rw[Bool.and_eq_false_iff,decide_eq_false_iff_not,decide_eq_false_iff_not];omega);rw[z,h1,h2]at hy;simp at hy
def abg (l:List aG):List aG:=(rX ltS l).foldl mrg []
theorem afc {l:List aG} (h:l.Pairwise fun x y=>ltS y x=false):l.Pairwise fun x y=>x.from_<=y.from_:=
 h.imp fun {x y} hxy=>by simp only[ltS,decide_eq_false_iff_not]at hxy;omega
theorem adK {l:List aG} (h:∀ s∈l,OkS s):Can (abg l)∧∀ y,inS (abg l) y=inS l y:=by
 have hp:=J2 ltS l;obtain⟨h1,h2⟩:=NC (rX ltS l) [] acI (fun s hs=>h s (hp.mem_iff.1 hs)) (afc (isort_sorted LW l)) (by simp);exact⟨h1,fun y=>by rw[abg,h2,IG,Bool.false_or,Zp hp]⟩
theorem adL {l:List aG} (h:∀ s∈l,OkS s):(rY ltS l).foldl mrg []=abg l:=by
 have hp:=yA LW l;obtain⟨h1,h2⟩:=NC (rY ltS l) [] acI (fun s hs=>h s (hp.mem_iff.1 hs)) (afc (Et LW l)) (by simp);obtain⟨h3,h4⟩:=adK h;exact SV h1 h3 fun y=>by rw[h2,IG,Bool.false_or,Zp hp,h4]
theorem Zr (l:List aG):(abg l).length<=l.length:=by
 have:∀ (ys out:List aG),(ys.foldl mrg out).length<=out.length+ys.length:=by
  intro ys
  induction ys with
  |nil=>intro out;simp
  |cons y ys ih=>
   intro out;simp only[foldl_cons,length_cons];have:=ih (mrg out y);have:=SS out y;omega
 have h:=this (rX ltS l) [];rw[jv]at h;simpa[abg]using h
abbrev OkR (r:au):Bool:=decide (0<=r.x0)&&(decide (r.x0 < r.x1)&&(decide (r.x1<=1048576)&&(decide (0<=r.y0)&&(decide (r.y0 < r.y1)&&decide (r.y1<=1048576)))))
theorem afd (a b:Bool):(bif a then some b else some false)=some (a&&b):=by cases a<;>rfl
theorem kM (r:au):qH r=some (OkR r):=by simp only[qH,afd]
def pI (l:List au) (x:Int):List aG:=(l.filter fun r=>decide (r.x0<=x)&&decide (x < r.x1)).map fun r=>⟨r.y0,r.y1⟩
def wU (l:List au) (x:Int):List aG:=abg (pI l x)
theorem Hw (l:List au) (x:Int):(pI l x).length<=l.length:=by simp only[pI,length_map];exact length_filter_le _ _
theorem SY (l:List au) (x:Int):(wU l x).length<=l.length:=
 Nat.le_trans (Zr _) (Hw l x)
theorem ah9 {r:au} (h:OkR r=true):r.y0 < r.y1:=by simp only[OkR,and_eq_true,decide_eq_true_eq]at h;omega
theorem abh {l:List au} (h:∀ r∈l,OkR r=true) (x:Int):∀ s∈pI l x,OkS s:=by
 intro s hs;simp only[pI,mem_map,List.mem_filter]at hs;obtain⟨r,⟨hr,_⟩,rfl⟩:=hs;exact ah9 (h r hr)
theorem ND {l:List au} {x:Int} (hl:l.length < 1099511627776) {n:Nat} (hn:l.length < n):iter (qJ l x) n ((0:Int),([]:List aG))=some (pI l x):=by
 have:=ku (l:=l) (step:=qJ l x) (fun i (s:List aG)=>((i:Int),s)) (fun r s=>bif decide (r.x0<=x)&&decide (x < r.x1)then s++[⟨r.y0,r.y1⟩]else s) (fun s=>s) (fun i s=>s.length<=i)
  (fun i hi s hs=>?_) (fun s hs=>by simp[qJ]) n hn [] (Nat.le_refl _)
 ·rw[show ((0:Nat):Int)=0 from rfl]at this;rw[this];congr 1;have gen:∀ (ys:List au) (s:List aG),ys.foldl (fun s r=>bif decide (r.x0<=x)&&decide (x < r.x1)then s++[⟨r.y0,r.y1⟩]else s) s=s++pI ys x:=by
   intro ys
   induction ys with
   |nil=>intro s;simp[pI]
   |cons y ys ih=>
    intro s;simp only[foldl_cons,ih];cases h:(decide (y.x0<=x)&&decide (x < y.x1))with
    |true=>simp[pI,h]
    |false=>simp[pI,h]
  simpa using gen l []
 ·have hi':decide (((i:Nat):Int) < (l.length:Int))=true:=by simpa using hi
  have ap:bG s.length s.length (sub ([(aG.mk l[i].y0 l[i].y1)]:List aG) 0 1).length 1 16=true:=bZ (n:=1) (by omega) (by simp only[maxLen];omega);simp only[qJ,hi',cond_true,bC hi,bind_some,afd];cases h:(decide (l[i].x0<=x)&&decide (x < l[i].x1))with
  |true=>
   simp only[cond_true,ap,fe,aA,bind_some];refine⟨?_,by simp;omega⟩;rw[ay (by omega)];rfl
  |false=>
   simp only[cond_false,aA,cond_true,bind_some];exact⟨by rw[ay (by omega)],by omega⟩
theorem NE {n:Nat} (w1 r2:List aG) (hw:w1.length=r2.length) (hl:r2.length < 1099511627776) (hn:r2.length < n):iter (qK w1 r2) n ((0:Int),([]:List aG))=some (r2.foldl mrg []):=by
 have:=ku (l:=r2) (step:=qK w1 r2) (fun i (s:List aG)=>((i:Int),s)) (fun r s=>mrg s r) (fun s=>s) (fun i s=>s.length<=i)
  (fun i hi s hs=>?_) (fun s hs=>by simp[qK,hw]) n hn [] (Nat.le_refl _)
 ·rw[show ((0:Nat):Int)=0 from rfl]at this;exact this
 ·refine⟨?_,by have:=SS s r2[i];omega⟩;have hi':decide (((i:Nat):Int) < ((w1.length:Nat):Int))=true:=by simp;omega
  have ib:inb (i:Int) w1.length=true:=dL (by omega);have ap:bG s.length s.length (sub ([r2[i]]:List aG) 0 1).length 1 16=true:=bZ (n:=1) (by omega) (by simp only[maxLen];omega);simp only[qK,hi',cond_true,ib,gq hi,bind_some];rcases List.eq_nil_or_concat s with rfl |⟨s0,q,hsq⟩
  ·have d0:decide (((([]:List aG).length:Nat):Int)>0)=false:=(by simp);simp only[d0,cond_false,bind_some,ap,cond_true,fe,aA];rw[ay (by omega)];rfl
  ·rw[List.concat_eq_append]at hsq;subst hsq;have d0:decide (((((s0++[q]).length:Nat):Int))>0)=true:=(by simp<;>omega);have lenq:(s0++[q]).length=s0.length+1:=(by simp);have wp:i64.wrap ((((s0++[q]).length:Nat):Int) - 1)=((s0.length:Nat):Int):=(by rw[mO (by simp) (by omega),lenq];rfl);have ib2:inb ((s0.length:Nat):Int) (s0++[q]).length=true:=dL (by omega);have g:at? (s0++[q]) (((0:Nat):Int)+((s0.length:Nat):Int))=some q:=(by rw[Ep];simp);have z:(((0:Nat):Int)+((s0.length:Nat):Int)).toNat=s0.length:=(by simp);have st:(s0++[q]).set s0.length (aG.mk q.from_ (max q.to r2[i].to))=s0++[⟨q.from_,max q.to r2[i].to⟩]:=(by simp);have m:mrg (s0++[q]) r2[i]=bif decide (r2[i].from_<=q.to)then s0++[⟨q.from_,max q.to r2[i].to⟩]else s0++[q]++[r2[i]]:=(by simp[mrg]);simp only[d0,cond_true,wp,ib2,g,bind_some,m,z,st];cases decide (r2[i].from_<=q.to)with
   |true=>
    have e:eqL (s0++[q]).length (s0++[(⟨q.from_,max q.to r2[i].to⟩:aG)]).length=true:=(by simp);simp only[cond_true,e,bind_some,aA];rw[ay (by omega)]
   |false=>
    simp only[cond_false,ap,cond_true,fe,aA,bind_some];rw[ay (by omega)];rfl
theorem XJ {n:Nat} {l:List au} {x:Int} (hv:∀ r∈l,OkR r=true) (hl:l.length < 1099511627776) (hn:l.length < n):IB n l x=some (wU l x):=by
 have h1:=Hw l x;have h2:(rY ltS (pI l x)).length=(pI l x).length:=Eu LW _;unfold IB;simp only[length_nil,aA,cond_true,ND (x:=x) (l:=l) (by omega) (n:=n) (by omega),bind_some];rw[I6 (fun a b=>if a.from_ < b.from_ then -1 else if b.from_ < a.from_ then 1 else 0) (fun a b=>by show wQ a b=_;unfold wQ;rw[yL];rfl) (fun a b=>by
  by_cases h1:a.from_ < b.from_
  ·simp[h1]
  ·by_cases h2:b.from_ < a.from_<;>simp[h1,h2]) (by omega) (by omega)]
 simp only[bind_some];rw[NE _ _ h2.symm (by omega) (by omega)];simp only[bind_some,bA,aA,cond_true];rw[adL (abh hv x)];rfl
def je (l:List au):List Int:=ah3 (l.flatMap fun r=>[r.x0,r.x1])
def J3 {α:Type} (f:Int->Int->α):List Int->List α
 |a::b::l=>f a b::J3 f (b::l)
 |_=>[]
def dI (l:List au):List dU:=J3 (fun a b=>⟨a,b,wU l a⟩) (je l)
theorem EF {α:Type} (f:Int->Int->α):∀ (l:List Int),(J3 f l).length=l.length - 1∧∀ i (h:i+1 < l.length) (h':i < (J3 f l).length),(J3 f l)[i]=f l[i] l[i+1]
 |[]=>⟨rfl,fun i h=>by simp at h⟩
 |[a]=>⟨rfl,fun i h=>by simp at h⟩
 |a::b::l=>by
  obtain⟨h1,h2⟩:=EF f (b::l);refine⟨by simp only[J3,length_cons,h1];simp,fun i h h'=>?_⟩;cases i with
  |zero=>rfl
  |succ i=>
   simp only[J3,List.getElem_cons_succ];exact h2 i (by simpa using h) _
theorem uZ (l:List au):(l.flatMap fun r=>[r.x0,r.x1]).length=2*l.length:=by
 induction l with
 |nil=>rfl
 |cons x l ih=>simp only[List.flatMap_cons,length_append,ih,length_cons,length_nil];omega
theorem Fu (l:List Int):(l9 l).length<=l.length:=by
 match l with
 |[]=>simp[l9]
 |[x]=>simp[l9]
 |x::y::l=>
  have:=Fu (y::l);simp only[l9];cases x==y<;>simp at* <;>omega
theorem JA (l:List au):(je l).length<=2*l.length:=by
 have h:=Fu (rX (fun a b=>decide (a < b)) (l.flatMap fun r=>[r.x0,r.x1]));rw[jv,uZ]at h;exact h
theorem NF {n:Nat} {l:List au} (hl:l.length < 10995116277) (hn:l.length < n):iter (qL l) n ((0:Int),([]:List Int))=some (l.flatMap fun r=>[r.x0,r.x1]):=by
 have:=ku (l:=l) (step:=qL l) (fun i (s:List Int)=>((i:Int),s)) (fun r s=>s++[r.x0,r.x1]) (fun s=>s) (fun i s=>s.length<=2*i)
  (fun i hi s hs=>?_) (fun s hs=>by simp[qL]) n hn [] (Nat.le_refl _)
 ·rw[show ((0:Nat):Int)=0 from rfl]at this;rw[this];have gen:∀ (ys:List au) (s:List Int),ys.foldl (fun s r=>s++[r.x0,r.x1]) s=s++ys.flatMap fun r=>[r.x0,r.x1]:=by
   intro ys
   induction ys with
   |nil=>intro s;simp
   |cons y ys ih=>intro s;simp[ih]
  congr 1;simpa using gen l []
 ·have hi':decide (((i:Nat):Int) < ((l.length:Nat):Int))=true:=by simpa using hi
  have ap:bG s.length s.length (sub ([l[i].x0,l[i].x1]:List Int) 0 2).length 2 8=true:=bZ (n:=2) (by omega) (by simp only[maxLen];omega);simp only[qL,hi',cond_true,dL hi,gq hi,bind_some,ap,fe,aA];refine⟨?_,by simp;omega⟩;rw[ay (by omega)];rfl
theorem XK {n:Nat} {ls:List (List au)} (hv:∀ r∈ls.flatten,OkR r=true) (hl:ls.flatten.length < 10995116277) (hls:ls.length < 1099511627776) (hn:2*ls.flatten.length < n) (hn2:ls.length < n):IC n ls=some (dI ls.flatten):=by
 unfold IC;rw[LV (by omega) hls hn2];generalize ls.flatten=l at*;have he:=JA l;simp only[bind_some,length_nil,aA,cond_true,NF (l:=l) (n:=n) (by omega) (by omega)];rw[yM (by rw[uZ];omega) (by rw[uZ];omega)];simp only[bind_some,jv,aA,cond_true];rw[AY (by rw[jv,uZ];omega) (by rw[jv,uZ];omega)];simp only[bind_some];have hE:l9 (rX ltI (l.flatMap fun r=>[r.x0,r.x1]))=je l:=rfl;rw[hE];obtain⟨p1,p2⟩:=EF (fun a b=>(⟨a,b,wU l a⟩:dU)) (je l);have key:iter (qM n l ((),je l)) n ((1:Int),([]:List dU))=some (dI l):=by
  have:=mQ (step:=qM n l ((),je l)) (fun i=>(((i+1:Nat):Int),(dI l).take i)) (dI l).length (dI l) (fun i hi=>?_) ?_ n (by unfold dI;omega)
  ·simpa using this
  ·have hi2:i+1 < (je l).length:=(by unfold dI at hi;omega);have d:decide (((i+1:Nat):Int) < (((je l).length:Nat):Int))=true:=(by simp;omega);have wp:i64.wrap (((i+1:Nat):Int) - 1)=((i:Nat):Int):=(by rw[mO (by omega) (by omega)];rfl);have ap:bG ((dI l).take i).length ((dI l).take i).length (sub ([(dU.mk ((je l)[i]'(by omega)) (je l)[i+1] (wU l ((je l)[i]'(by omega))))]:List dU) 0 1).length 1 40=true:=by
    refine bZ (n:=1) ?_ ?_
    ·rw[length_take];unfold dI;omega
    ·rw[length_take];unfold dI;simp only[maxLen];omega
   have tk:(dI l).take (i+1)=(dI l).take i++[⟨(je l)[i]'(by omega),(je l)[i+1],wU l ((je l)[i]'(by omega))⟩]:=by
    rw[take_succ_eq_append_getElem hi];congr 2;exact p2 i hi2 hi
   simp only[qM,d,cond_true,wp,dL (show i < (je l).length by omega),gq (show i < (je l).length by omega),bind_some,dL hi2,gq hi2,bA,aA,XJ (l:=l) (n:=n) hv (by omega) (by omega),ap,fe];rw[ay (by omega),tk];rfl
  ·have d:decide ((((dI l).length+1:Nat):Int) < (((je l).length:Nat):Int))=false:=(by unfold dI;simp;omega);simp only[qM,d,cond_false,List.take_length,aA,cond_true]
 rw[key];simp only[bind_some,bA,aA,cond_true]
def EG (x0 x1:Int) (c:List aG):List au:=c.map fun q=>⟨x0,q.from_,x1,q.to⟩
def abj (x0 x1:Int) (c:List aG):List dU->List au
 |[]=>EG x0 x1 c
 |s::l=>if s.column=c then abj x0 s.x1 c l else EG x0 x1 c++abj s.x0 s.x1 s.column l
def sU:List dU->List au
 |[]=>[]
 |s::l=>abj s.x0 s.x1 s.column l
theorem Wd (x0:Int) (c:List aG):∀ (l:List dU) (x1:Int) (k:Nat) (hk:k<=l.length),(∀ j (hj:j < k),(l[j]'(by omega)).column=c)->(∀ h:k < l.length,l[k].column≠c)->
 abj x0 x1 c l=EG x0 (if h:0 < k then (l[k - 1]'(by omega)).x1 else x1) c++sU (l.drop k)
 |l,x1,0,_,_,h2=>by
  cases l with
  |nil=>simp[abj,sU]
  |cons s l=>
   have:=h2 (by simp);simp only[List.getElem_cons_zero]at this;simp[abj,sU,this]
 |[],x1,k+1,hk,_,_=>by simp at hk
 |s::l,x1,k+1,hk,h1,h2=>by
  have e0:=h1 0 (by omega);simp only[List.getElem_cons_zero]at e0;simp only[abj,e0,if_true];rw[Wd x0 c l s.x1 k (by simpa using hk) (fun j hj=>by have:=h1 (j+1) (by omega);simpa using this) (fun h=>by have:=h2 (by simpa using h);simpa using this)];simp only[List.drop_succ_cons];congr 2;by_cases hk0:0 < k
  ·simp only[hk0,dite_true,Nat.zero_lt_succ,Nat.add_sub_cancel];obtain⟨m,rfl⟩:∃ m,k=m+1:=⟨k - 1,by omega⟩;simp
  ·have:k=0:=(by omega);subst this;simp
theorem Py {n:Nat} {l:List dU} {i k:Nat} (hi:i < l.length) (hk1:0 < k) (hk:k<=l.length) (hl:l.length < 10995116277) (x3:dU) (out:List au) (ho:out.length < 1099511627776) (hc:x3.column.length < 1099511627776) (hn:x3.column.length < n):
 iter (uR l (i:Int) (k:Int) x3) n ((0:Int),out)=some (out++EG l[i].x0 (l[k - 1]'(by omega)).x1 x3.column):=by
 have:=ku (l:=x3.column) (step:=uR l (i:Int) (k:Int) x3) (fun j (s:List au)=>((j:Int),s)) (fun q s=>s++[⟨l[i].x0,q.from_,(l[k - 1]'(by omega)).x1,q.to⟩]) (fun s=>s) (fun j s=>s.length<=out.length+j)
  (fun j hj s hs=>?_) (fun s hs=>by simp[uR]) n hn out (Nat.le_refl _)
 ·rw[show ((0:Nat):Int)=0 from rfl]at this;rw[this];have gen:∀ (ys:List aG) (s:List au),ys.foldl (fun s q=>s++[⟨l[i].x0,q.from_,(l[k - 1]'(by omega)).x1,q.to⟩]) s=s++EG l[i].x0 (l[k - 1]'(by omega)).x1 ys:=by
   intro ys
   induction ys with
   |nil=>intro s;simp[EG]
   |cons y ys ih=>intro s;simp only[foldl_cons,ih];simp[EG]
  rw[gen]
 ·have hj':decide (((j:Nat):Int) < (x3.column.length:Int))=true:=by simpa using hj
  have wp:i64.wrap ((k:Int) - 1)=((k - 1:Nat):Int):=mO hk1 (by omega);have ap:bG s.length s.length (sub ([(au.mk l[i].x0 (x3.column[j]).from_ (l[k - 1]'(by omega)).x1 (x3.column[j]).to)]:List au) 0 1).length 1 32=true:=bZ (n:=1) (by omega) (by simp only[maxLen];omega);simp only[uR,hj',cond_true,bC hj,bC hi,wp,bC (show k - 1 < l.length by omega),bind_some,ap,fe,aA];refine⟨?_,by simp;omega⟩;rw[ay (by omega)];rfl
theorem Zt {n:Nat} {l:List dU} {b:Nat} (hb:b<=100000) (hl:l.length<=100000) (hc:∀ s∈l,s.column.length<=b) (hn:b < n) (hn2:l.length < n):LP n l=some (sU l):=by
 unfold LP;simp only[length_nil,aA,cond_true];have main:∀ (m i:Nat) (out:List au) (k:Nat),i+m=l.length->m < k->out.length<=i*b->iter (uS n l) k ((i:Int),out)=some (out++sU (l.drop i)):=by
  intro m
  induction m using Nat.strongRecOn with
  |ind m ih=>
   intro i out k him hk ho;obtain⟨k,rfl⟩:∃ j,k=j+1:=⟨k - 1,by omega⟩;by_cases hm:m=0
   ·subst hm;have:i=l.length:=(by omega);subst this;refine aV ?_;simp[uS,sU]
   ·have hi:i < l.length:=(by omega);have di:decide (((i:Nat):Int) < (l.length:Int))=true:=(by simpa using hi);obtain⟨q,hq1,hq2,hq3,hq4⟩:∃ q,i < q∧q<=l.length∧(∀ j,i < j->j < q->∀ h:j < l.length,l[j].column=l[i].column)∧(∀ h:q < l.length,l[q].column≠l[i].column):=by
     rcases Jy (fun j=>if h:j < l.length then decide (l[j].column≠l[i].column)else false) (i+1) l.length with ⟨q,h1,h2,h3,h4⟩ |h
     ·simp only[h2,dite_true,decide_eq_true_eq]at h3;refine⟨q,by omega,by omega,fun j hj1 hj2 hj=>?_,fun _=>h3⟩;have:=h4 j (by omega) hj2;simp only[hj,dite_true,decide_eq_false_iff_not,ne_eq,Decidable.not_not]at this;exact this
     ·refine⟨l.length,hi,Nat.le_refl _,fun j hj1 hj2 hj=>?_,fun h=>by omega⟩;have:=h j (by omega) hj;simp only[hj,dite_true,decide_eq_false_iff_not,ne_eq,Decidable.not_not]at this;exact this
    have cl:∀ j (hj:j < l.length),l[j].column.length<=b:=fun j hj=>hc _ (getElem_mem hj);have r2:iter (qa n l (i:Int)) n (i64.wrap ((i:Int)+1))=some (q:Int):=by
     rw[ay (by omega)];have:=mQ (step:=qa n l (i:Int)) (fun j=>((i+1+j:Nat):Int)) (q - (i+1)) (q:Int) (fun j hj=>?_) ?_ n (by omega)
     ·simpa using this
     ·have hjl:i+1+j < l.length:=(by omega);have dj:decide (((i+1+j:Nat):Int) < (l.length:Int))=true:=(by simp;omega);have hcc:=cl (i+1+j) hjl;simp only[qa,dj,cond_true,bC hjl,bC hi,bind_some];rw[C8 (by omega) (by omega),hq3 (i+1+j) (by omega) (by omega) hjl];simp only[decide_true,bind_some,cond_true];rw[ay (by omega)];rfl
     ·rw[show i+1+(q - (i+1))=q by omega];by_cases hql:q < l.length
      ·have dj:decide (((q:Nat):Int) < (l.length:Int))=true:=(by simpa using hql);have hcc:=cl q hql;simp only[qa,dj,cond_true,bC hql,bC hi,bind_some];rw[C8 (by omega) (by omega)];simp[hq4 hql]
      ·have dj:decide (((q:Nat):Int) < (l.length:Int))=false:=(by simp;omega);simp only[qa,dj,cond_false,bind_some]
    have ob:i*b<=100000*100000:=Nat.mul_le_mul (by omega) hb;have hci:=cl i hi;have r3:=Py (n:=n) hi (show 0 < q by omega) hq2 (by omega) l[i] out (by omega) (by omega) (by omega);have step:uS n l ((i:Int),out)=some (.inl ((q:Int),out++EG l[i].x0 (l[q - 1]'(by omega)).x1 l[i].column)):=(by simp only[uS,di,cond_true,r2,bC hi,bind_some,aA,r3]);rw[bP step,ih (l.length - q) (by omega) q _ k (by omega) (by omega) (by
     rw[length_append,EG,length_map];have:(i+1)*b<=q*b:=Nat.mul_le_mul_right _ (by omega);rw[Nat.add_mul]at this;omega)]
    rw[List.append_assoc];congr 2
    conv=>rhs;rw[List.drop_eq_getElem_cons hi]
    simp only[sU];rw[Wd l[i].x0 l[i].column (l.drop (i+1)) l[i].x1 (q - (i+1)) (by rw[List.length_drop];omega) (fun j hj=>by
     rw[getElem_drop];exact hq3 _ (by omega) (by omega) (by omega)) (fun h=>by
     rw[List.length_drop]at h;rw[getElem_drop];have:=hq4 (by omega);have hqq:i+1+(q - (i+1))=q:=(by omega);simp only[hqq];exact this)]
    rw[List.drop_drop,show i+1+(q - (i+1))=q by omega];congr 2;by_cases h0:0 < q - (i+1)
    ·simp only[h0,dite_true,getElem_drop];congr 2;omega
    ·simp only[h0,dite_false];have:q - 1=i:=(by omega);congr 2
 have:=main l.length 0 [] n (by omega) (by omega) (by simp);simp only[Int.natCast_zero,nil_append,List.drop_zero]at this;rw[this];simp
def ofL (l:List au):List au×Int:=
 if l.all OkR then (if l.length>400 then ([],6)else if (sU (dI l)).length>200 then ([],6)else (sU (dI l),0))else ([],1)
def rightL (l:List au):Bool:=decide ((ofL l).2=0)&&decide ((ofL l).1=l)
theorem Zu {l:List au} {s:dU} (h:s∈dI l):s.column.length<=l.length:=by
 obtain⟨i,hi,rfl⟩:=List.getElem_of_mem h;obtain⟨p1,p2⟩:=EF (fun a b=>(⟨a,b,wU l a⟩:dU)) (je l);have:(dI l)[i]=⟨(je l)[i]'(by unfold dI at hi;omega),(je l)[i+1]'(by unfold dI at hi;omega),wU l ((je l)[i]'(by unfold dI at hi;omega))⟩:=p2 i (by unfold dI at hi;omega) hi;rw[this];exact SY l _
theorem S9 (l:List au):(dI l).length<=2*l.length:=by
 obtain⟨p1,_⟩:=EF (fun a b=>(⟨a,b,wU l a⟩:dU)) (je l);have:=JA l;unfold dI;omega
theorem afe {n:Nat} {l:List au} (hl:l.length < 1099511627776) (hl2:l.length < n) (hn:1000<=n):acE n l=some (ofL l):=by
 unfold acE;have h1:=kT (l:=l) (step:=LQ l) (fun i=>(i:Int)) (fun r=>!OkR r) () (fun _=>(([]:List au),(1:Int))) (fun i hi=>?_) ?_ n (by omega)
 ·rw[show ((0:Nat):Int)=0 from rfl]at h1;rw[h1];have h2:=mR (fun r=>!OkR r) l;cases hf:lC (fun r=>!OkR r) l with
  |some i=>
   rw[hf]at h2;have:l.all OkR=false:=by
    rw[<- Bool.not_eq_true,all_eq_true];intro hall;have h3:=h2.symm;simp only[Option.isSome_some,any_eq_true]at h3;obtain⟨x,hx,hx2⟩:=h3;rw[hall x hx]at hx2;cases hx2
   simp[ofL,this]
  |none=>
   rw[hf]at h2;have:l.all OkR=true:=by
    rw[all_eq_true];intro x hx;cases h:OkR x with
    |true=>rfl
    |false=>
     have:l.any (fun r=>!OkR r)=true:=any_eq_true.2 ⟨x,hx,by rw[h];rfl⟩;rw[this]at h2;cases h2
   have hv:∀ r∈l,OkR r=true:=all_eq_true.1 this;by_cases h400:l.length>400
   ·have d4:decide ((l.length:Int)>400)=true:=(by simp;omega);simp only[fV,d4,cond_true,ofL,this,if_true,if_pos h400]
   have d4:decide ((l.length:Int)>400)=false:=(by simp;omega);have ls:=S9 l;simp only[fV,d4,cond_false];have fl:[l].flatten=l:=(by simp);rw[show (sub ([l]:List (List au)) 0 1)=[l]from rfl,XK (ls:=[l]) (by rw[fl];exact hv) (by rw[fl];omega) (by simp) (by rw[fl];omega) (by simp;omega),fl];simp only[length_singleton,aA,cond_true,bind_some,bA];rw[Zt (b:=400) (by omega) (by omega) (fun s hs=>Nat.le_trans (Zu hs) (by omega)) (by omega) (by omega)];simp only[bind_some,bA,aA,cond_true,JY,ofL,this,if_true,if_neg h400];by_cases h200:(sU (dI l)).length>200
   ·have:decide (((sU (dI l)).length:Int)>200)=true:=(by simp;omega);simp only[this,cond_true,bind_some,h200,if_true]
   ·have:decide (((sU (dI l)).length:Int)>200)=false:=(by simp;omega);simp only[this,cond_false,bind_some,h200,if_false]
 ·have hi':decide (((i:Nat):Int) < (l.length:Int))=true:=by simpa using hi
  simp only[LQ,hi',cond_true,bC hi,bind_some,kM];cases OkR l[i]with
  |false=>rfl
  |true=>simp only[Bool.not_true,cond_false];rw[ay (by omega)]
 ·simp[LQ]
theorem AZ {n:Nat} {l:List au} (hl:l.length < 1099511627776) (hl2:l.length < n) (hn:1000<=n):yG n l=some (rightL l):=by
 unfold yG rightL;rw[afe hl hl2 hn];simp only[bind_some];by_cases h:(ofL l).2=0
 ·have e:((ofL l).2==0)=true:=by simp[h]
  have lo:(ofL l).1.length<=200:=by
   unfold ofL;split
   ·split
    ·simp
    ·split
     ·simp
     ·simp;omega
   ·simp
  by_cases hlen:(ofL l).1.length < n
  ·simp only[e,cond_true,h,decide_true,Bool.true_and];rw[NA (by omega) hlen];rfl
  ·have:(ofL l).1.length≠l.length:=(by omega);have hne:(ofL l).1≠l:=fun e=>this (by rw[e]);simp only[e,cond_true,h,decide_true,Bool.true_and];unfold oK;have hb:(((ofL l).1.length:Int) != (l.length:Int))=true:=(by simp;omega);rw[hb];simp[hne]
 ·have e:((ofL l).2==0)=false:=by simp[h]
  simp[e,h]
theorem aff {α:Type} (c:Bool) (a b:α):(bif c then some a else some b)=some (bif c then a else b):=by cases c<;>rfl
theorem dM {i n:Nat} (h:i < n):decide ((i:Int) < ((n:Nat):Int))=true:=by simpa using h
theorem dD (n:Nat):decide ((n:Int) < ((n:Nat):Int))=false:=by simp
theorem ags {k b:Nat} (h:k*b<=140737488355328) (h2:k<=maxLen):JH (k:Int) b=true:=by
 have e:((k:Int)).toNat=k:=by omega
 simp only[JH,and_eq_true,decide_eq_true_eq,e];exact⟨⟨by omega,h⟩,h2⟩
def Runs:List dU->Prop
 |[]=>True
 |[s]=>s.x0 < s.x1∧s.column≠[]
 |s::t::l=>(s.x0 < s.x1∧s.column≠[])∧s.x1<=t.x0∧(s.x1=t.x0->s.column≠t.column)∧Runs (t::l)
theorem adM {a:List au} (h:rightL a=true):ofL a=(a,0):=by
 unfold rightL at h;rw[and_eq_true,decide_eq_true_eq,decide_eq_true_eq]at h;obtain⟨h1,h2⟩:=h;exact Prod.ext h2 h1
theorem XL {a:List au} (h:rightL a=true):(∀ r∈a,OkR r=true)∧a.length<=200∧sU (dI a)=a:=by
 have h:=adM h;unfold ofL at h;split at h
 ·rename_i hall;split at h
  ·simp at h
  ·split at h
   ·simp at h
   ·rename_i h200;injection h with h _;refine⟨all_eq_true.1 hall,?_,h⟩;rw[<- h];omega
 ·simp at h
def ext (out:List aG) (p:aG):List aG:=
 match out.getLast? with
 |some q=>bif q.to==p.from_ then out.dropLast++[⟨q.from_,p.to⟩]else out++[p]
 |none=>[p]
def Pe (r:au):Int:=(r.x1 - r.x0)*(r.y1 - r.y0)
def LX (l:List au):Int:=(l.map Pe).sum
theorem Hy {r:au} (h:OkR r=true):0<=Pe r∧Pe r<=1099511627776:=by
 simp only[OkR,and_eq_true,decide_eq_true_eq]at h;unfold Pe;refine⟨Int.mul_nonneg (by omega) (by omega),?_⟩;have:=Int.mul_le_mul (show r.x1 - r.x0<=1048576 by omega) (show r.y1 - r.y0<=1048576 by omega) (by omega) (by omega);omega
theorem Ta:∀ {l:List au},(∀ r∈l,OkR r=true)->0<=LX l∧LX l<=1099511627776*(l.length:Int)
 |[],_=>by simp[LX]
 |r::l,h=>by
  have h1:=Hy (h r mem_cons_self);have h2:=Ta (l:=l) fun q hq=>h q (List.mem_cons_of_mem _ hq);have e:LX (r::l)=Pe r+LX l:=rfl;rw[e,length_cons]
  push_cast
  omega
theorem Wh:∀ (l:List Int) (x:Int),(l++[x]).sum=l.sum+x
 |[],x=>by simp
 |a::l,x=>by rw[List.cons_append,List.sum_cons,List.sum_cons,Wh l x];omega
theorem adN {r:au} (h:OkR r=true):EA r=some (Pe r):=by
 have hb:=Hy h;unfold EA xK;rw[kM,h];simp only[bind_some,cond_true];simp only[OkR,and_eq_true,decide_eq_true_eq]at h;unfold Pe at*;rw[dH (x:=r.x1 - r.x0) (by omega) (by omega),dH (x:=r.y1 - r.y0) (by omega) (by omega),dH (by omega) (by omega)]
theorem abk {n:Nat} {a:List au} (ha:a.length<=900) (hn:1000<=n):Qv n a=some (bif rightL a then LX a else 0):=by
 unfold Qv;rw[AZ (by omega) (by omega) hn];simp only[bind_some];cases hr:rightL a with
 |false=>rfl
 |true=>
  have ok:=(XL hr).1;have:=mQ (step:=EB a) (fun i=>(LX (a.take i),((i:Nat):Int))) a.length (LX a) (fun i hi=>?_) ?_ n (by omega)
  ·have e:LX (a.take 0)=0:=rfl;rw[e,show ((0:Nat):Int)=0 from rfl]at this;simp only[Bool.not_true,cond_false,cond_true,this,bind_some]
  ·have c:decide (((i:Nat):Int) < (a.length:Int))=true:=(by simpa using hi);have h1:=Ta (l:=a.take i) fun r hr=>ok r (List.mem_of_mem_take hr);rw[length_take]at h1;have h2:=Hy (ok _ (getElem_mem hi));have e:LX (a.take (i+1))=LX (a.take i)+Pe a[i]:=(by rw[take_succ_eq_append_getElem hi];unfold LX;rw[map_append];exact Wh _ _);simp only[EB,c,cond_true,bC hi,bind_some,adN (ok _ (getElem_mem hi))];rw[ay (by omega),dH (by omega) (by omega),e]
  ·simp[EB]
abbrev ltY (a b:au):Bool:=decide (a.y0 < b.y0)
theorem acJ:Go.Sort.SWO ltY where
 irrefl x:=by simp[ltY]
 trans x y z h1 h2:=by simp only[ltY,decide_eq_true_eq]at *;omega
 ntrans x y z h1 h2:=by simp only[ltY,decide_eq_false_iff_not]at *;omega
instance:Inhabited au:=⟨au.mk 0 0 0 0⟩
theorem adO (n:Nat) (rc:List au->Int->Int->Int->((au×au×Unit)->Option Int)->Option (List au)) (φ:(au×au×Unit)->Option Int) (l:List au) (a b d:Int):gB n rc l a b d φ=gm (fun x y=>φ (x,y,())) (fun r=>decide (r < 0)) aK aL n (fun l a b d=>rc l a b d φ) l a b d:=by kernel_rfl
theorem Wi (n:Nat) (φ:(au×au×Unit)->Option Int):∀ m l a b d,cO n m l a b d φ=dS (fun x y=>φ (x,y,())) (fun r=>decide (r < 0)) aK aL n m l a b d
 | 0,l,a,b,d=>rfl
 |m+1,l,a,b,d=>by
  have e:(fun l a b d=>cO n m l a b d φ)=dS (fun x y=>φ (x,y,())) (fun r=>decide (r < 0)) aK aL n m:=by
   funext l a b d;exact Wi n φ m l a b d
  show gB n (cO n m) l a b d φ=gm (fun x y=>φ (x,y,())) (fun r=>decide (r < 0)) aK aL n (dS (fun x y=>φ (x,y,())) (fun r=>decide (r < 0)) aK aL n m) l a b d;rw[<- e];exact adO n (cO n m) φ l a b d
theorem I7 {n:Nat} {l:List au} {φ:(au×au×Unit)->Option Int} (f:au->au->Int) (hφ:∀ x y,φ (x,y,())=some (f x y)) (hf:∀ x y,decide (f x y < 0)=ltY x y) (hl:l.length < 1099511627776) (hn:l.length < n):ng n l φ=some (rY ltY l):=by
 unfold ng kJ;rw[kV (by omega),uY (by omega)];simp only[bind_some,aA,cond_true,Wi];rw[qC (lt:=ltY) acJ (f:=f) (q:=fun r=>decide (r < 0)) hφ hf acG acH (by omega) hn hn];rfl
structure ain (R:List dU):Prop where
 runs:Runs R
 len:R.length<=200
 col:∀ s∈R,Can s.column∧∀ q∈s.column,0<=q.from_∧q.from_ < q.to∧q.to<=1048576
 xs:∀ s∈R,0<=s.x0∧s.x0 < s.x1∧s.x1<=1048576
 froms:(R.flatMap fun s=>s.column.map (·.from_)).length<=200
def abl (a b:au):Int:=bif (!OkR a || !OkR b)then -1 else max (max 0 (i64.wrap ((max a.x0 b.x0) - (min a.x1 b.x1)))) (i64.wrap ((max a.y0 b.y0) - (min a.y1 b.y1)))
theorem afg (a b:au):acF a b=some (abl a b):=by
 unfold acF abl;rw[kM,kM];simp only[bind_some];cases OkR a<;>cases OkR b<;>rfl
def XM (a b:List au):Int×Bool:=
 bif (decide (a=[]) || (decide (b=[]) || (!rightL a || !rightL b)))then (0,false)else (a.foldl (fun m x=>b.foldl (fun m y=>min m (abl x y)) m) 1048576,true)
theorem UG {n:Nat} {b:List au} (hb:b.length < 1099511627776) (hn:b.length < n) (x:au) (m:Int):iter (CW b x) n (m,(0:Int))=some (b.foldl (fun m y=>min m (abl x y)) m):=by
 have:=sN (l:=b) (step:=CW b x) (fun i (s:Int)=>(s,((i:Nat):Int))) (fun y m=>min m (abl x y)) (fun s=>s) (fun i hi s=>?_) (fun s=>by simp[CW]) n hn m
 ·exact this
 ·have hi':decide (((i:Nat):Int) < (b.length:Int))=true:=by simpa using hi
  simp only[CW,hi',cond_true,bC hi,bind_some,afg];rw[ay (by omega)]
theorem adP {n:Nat} {a b:List au} (ha:a.length<=900) (hb:b.length<=900) (hn:1000<=n):SQ n a b=some (XM a b):=by
 unfold SQ XM;have z:∀ l:List au,(((l.length:Int))==0)=decide (l=[]):=fun l=>by cases l<;>simp<;>omega
 rw[z a,z b,AZ (by omega) (by omega) hn,AZ (by omega) (by omega) hn];have loop:(iter (CX n a b) n ((1048576:Int),(0:Int)))=some (a.foldl (fun m x=>b.foldl (fun m y=>min m (abl x y)) m) 1048576):=by
  have:=sN (l:=a) (step:=CX n a b) (fun i (s:Int)=>(s,((i:Nat):Int))) (fun x m=>b.foldl (fun m y=>min m (abl x y)) m) (fun s=>s) (fun i hi s=>?_) (fun s=>by simp[CX]) n (by omega) 1048576
  ·exact this
  ·have hi':decide (((i:Nat):Int) < (a.length:Int))=true:=(by simpa using hi);simp only[CX,hi',cond_true,bC hi,bind_some];rw[UG (by omega) (by omega),bind_some,ay (by omega)]
 simp only[bind_some,loop];cases decide (a=[])<;>cases decide (b=[])<;>cases rightL a<;>cases rightL b<;>rfl
def acK:iQ:=iQ.mk 0 0 [] []
def dF (land:List iQ) (id:Int):iQ×Bool:=match land.find? fun t=>t.id==id with
 |some t=>(t,true)
 |none=>(acK,false)
theorem abm {α:Type} (p:α->Bool) (l:List α):(∃ (i:Nat) (h:i < l.length),lC p l=some i∧l.find? p=some l[i])∨(lC p l=none∧l.find? p=none):=by
 rcases Er p l with ⟨i,hi,h1,h2,h3⟩ |⟨h1,h2⟩
 ·refine .inl ⟨i,hi,h1,?_⟩;rw[List.find?_eq_some_iff_getElem];exact⟨h2,i,hi,rfl,fun j hj=>by simpa using h3 j hj⟩
 ·refine .inr ⟨h1,?_⟩;rw[List.find?_eq_none];intro x hx;rw[h2 x hx];simp
def J4 (t:iQ) (id d:Int) (u:iQ):Bool:=(XM t.area u.area).2&&(decide ((XM t.area u.area).1<=d)&&(u.id != id))
def EH (land:List iQ) (t:iQ) (id d:Int):List Int:=(land.filter fun u=>J4 t id d u).map (·.id)
def Zv (land:List iQ) (id d:Int):List Int:=
 bif (dF land id).2 then ah3 (EH land (dF land id).1 id d)else []
theorem Td {n:Nat} {land:List iQ} (hl:land.length < 10995116277) (hn:land.length < n):iter (yI land) n ((0:Int),([]:List (List au)))=some (land.map (·.area)):=by
 have:=mQ (step:=yI land) (fun i=>(((i:Nat):Int),(land.take i).map (·.area))) land.length (land.map (·.area)) (fun i hi=>?_) ?_ n hn
 ·simpa using this
 ·have hi':decide (((i:Nat):Int) < (land.length:Int))=true:=by simpa using hi
  have ap:bG ((land.take i).map (·.area)).length ((land.take i).map (·.area)).length (sub ([land[i].area]:List (List au)) 0 1).length 1 24=true:=by
   refine bZ (n:=1) ?_ ?_
   ·rw[length_map,length_take];omega
   ·rw[length_map,length_take];simp only[maxLen];omega
  simp only[yI,hi',cond_true,bC hi,bind_some,ap,fe,aA];rw[ay (by omega),take_succ_eq_append_getElem hi,map_append];rfl
 ·simp[yI]
theorem UH {land:List iQ} (h:∀ t∈land,t.area.length<=900) (id:Int):(dF land id).1.area.length<=900:=by
 unfold dF;split
 ·rename_i t ht;exact h t (List.mem_of_find?_eq_some ht)
 ·simp[acK]
theorem abn {n:Nat} {land:List iQ} {id d:Int} (h:∀ t∈land,t.area.length<=900) (hF:IA n land id=some (dF land id)) (hl:land.length<=100) (hn:1000<=n):Qw n land id d=some (Zv land id d):=by
 unfold Qw Zv;rw[hF];simp only[bind_some];cases hf:(dF land id).2 with
 |false=>rfl
 |true=>
  have ht:=UH h id;simp only[Bool.not_true,cond_false,length_nil,aA,cond_true,Td (land:=land) (n:=n) (by omega) (by omega),bind_some];have key:iter (yJ n land id d (dF land id) (land.map (·.area))) n ((0:Int),([]:List Int))=some (EH land (dF land id).1 id d):=by
   have:=ku (l:=land) (step:=yJ n land id d (dF land id) (land.map (·.area))) (fun i (s:List Int)=>(((i:Nat):Int),s)) (fun u s=>bif J4 (dF land id).1 id d u then s++[u.id]else s) (fun s=>s) (fun i s=>s.length<=i)
    (fun i hi s hs=>?_) (fun s hs=>by simp[yJ]) n (by omega) [] (Nat.le_refl _)
   ·rw[show ((0:Nat):Int)=0 from rfl]at this;rw[this];have gen:∀ (ys:List iQ) (s:List Int),ys.foldl (fun s u=>bif J4 (dF land id).1 id d u then s++[u.id]else s) s=s++EH ys (dF land id).1 id d:=by
     intro ys
     induction ys with
     |nil=>intro s;simp[EH]
     |cons y ys ih=>
      intro s;simp only[foldl_cons,ih,EH];cases hy:J4 (dF land id).1 id d y<;>simp[hy]
    rw[gen];simp
   ·have hlm:(land.map (·.area)).length=land.length:=(by simp);have hi':decide (((i:Nat):Int) < (((land.map (·.area)).length:Nat):Int))=true:=(by rw[hlm];simpa using hi);have ib:inb ((i:Nat):Int) (land.map (·.area)).length=true:=dL (by omega);have g:at? (land.map (·.area)) (((0:Nat):Int)+((i:Nat):Int))=some land[i].area:=(by rw[Ep];simp[hi]);have hu:=h _ (getElem_mem hi);have ap:bG s.length s.length (sub ([land[i].id]:List Int) 0 1).length 1 8=true:=bZ (n:=1) (by omega) (by simp only[maxLen];omega);have gp:SQ n (dF land id).1.area land[i].area=some (XM (dF land id).1.area land[i].area):=adP ht hu hn;simp only[yJ,hi',cond_true,ib,g,bind_some,gp,bC hi];have e:((bif (XM (dF land id).1.area land[i].area).2 then (bif (decide ((XM (dF land id).1.area land[i].area).1<=d))then some (land[i].id != id)else some false)else some false):Option Bool)=some (J4 (dF land id).1 id d land[i]):=by
     unfold J4;cases (XM (dF land id).1.area land[i].area).2<;>cases decide ((XM (dF land id).1.area land[i].area).1<=d)<;>rfl
    rw[e];simp only[bind_some];cases J4 (dF land id).1 id d land[i]with
    |true=>
     simp only[cond_true,ap,fe,aA,bind_some];refine⟨?_,by simp;omega⟩;rw[ay (by omega)];rfl
    |false=>
     simp only[cond_false,aA,cond_true,bind_some];exact⟨by rw[ay (by omega)],by omega⟩
  have hlen:(EH land (dF land id).1 id d).length<=100:=by
   unfold EH;rw[length_map];exact Nat.le_trans (length_filter_le _ _) hl
  rw[key];simp only[bind_some,aA,cond_true];rw[yM (by omega) (by omega)];simp only[bind_some,jv,aA,cond_true];rw[AY (by rw[jv];omega) (by rw[jv];omega)];simp only[bind_some,bA,aA,cond_true];rfl
def afh:List ByteArray:=[⟨#[104,111,109,101]⟩,⟨#[115,104,111,112]⟩,⟨#[119,111,114,107]⟩,⟨#[112,97,114,107]⟩,⟨#[112,108,97,110,116]⟩,⟨#[104,97,108,108]⟩]
def nameOf (use:Int):Option ByteArray:=at? afh use
theorem Te {V O:Type} {step:V->Option (V ⊕ O)} (R:Nat->V->Prop) (N:Nat) (Q:O->Prop) (h:∀ i v,i < N->R i v->∃ v',step v=some (.inl v')∧R (i+1) v') (hN:∀ v,R N v->∃ o,step v=some (.inr o)∧Q o):
 ∀ n,N < n->∀ v,R 0 v->∃ o,iter step n v=some o∧Q o:=by
 have main:∀ k i n v,i+k=N->k < n->R i v->∃ o,iter step n v=some o∧Q o:=by
  intro k
  induction k with
  |zero=>
   intro i n v hi hn hR;obtain⟨m,rfl⟩:∃ m,n=m+1:=⟨n - 1,by omega⟩;have:i=N:=(by omega);subst this;obtain⟨o,h1,h2⟩:=hN v hR;exact⟨o,aV h1,h2⟩
  |succ k ih=>
   intro i n v hi hn hR;obtain⟨m,rfl⟩:∃ m,n=m+1:=⟨n - 1,by omega⟩;obtain⟨v',h1,h2⟩:=h i v (by omega) hR;obtain⟨o,h3,h4⟩:=ih (i+1) m v' (by omega) (by omega) h2;exact⟨o,by rw[bP h1,h3],h4⟩
 intro n hn v hR;exact main N 0 n v (by omega) hn hR
def Tf (a b:au):au:=⟨max a.x0 b.x0,max a.y0 b.y0,min a.x1 b.x1,min a.y1 b.y1⟩
theorem LY (a:au):xK a=some (bif OkR a then (a,true)else (⟨0,0,0,0⟩,false)):=by
 unfold xK;rw[kM];simp only[bind_some,aff]
theorem Tg (a b:au):AO a b=some (bif OkR a&&(OkR b&&OkR (Tf a b))then (Tf a b,true)else (⟨0,0,0,0⟩,false)):=by
 unfold AO;rw[kM,kM];simp only[bind_some,aff];rw[show au.mk (max a.x0 b.x0) (max a.y0 b.y0) (min a.x1 b.x1) (min a.y1 b.y1)=Tf a b from rfl,LY];simp only[bind_some];generalize OkR (Tf a b)=c;cases OkR a<;>cases OkR b<;>cases c<;>rfl
def afi (r:au):Int:=i64.wrap (i64.wrap (r.x1 - r.x0)*i64.wrap (r.y1 - r.y0))
theorem NG {r:au} (h:OkR r=true):EA r=some (afi r):=by
 unfold EA;rw[LY,h];rfl
def ahv (x:au) (n:Int) (y:au):Int:=bif OkR x&&(OkR y&&OkR (Tf x y))then i64.wrap (n+afi (Tf x y))else n
def sEq (a b:ByteArray):Bool:=ByteArray.toList a==ByteArray.toList b
abbrev ahw (r:aZ):Prop:=r.zones.length<=100∧r.except.length<=100
theorem agt (r:au):OkR r=true↔(0<=r.x0∧r.x0 < r.x1∧r.x1<=1048576)∧(0<=r.y0∧r.y0 < r.y1∧r.y1<=1048576):=by simp only[OkR,and_eq_true,decide_eq_true_eq];omega
def four (r m:au):List au:=[⟨r.x0,r.y0,m.x0,r.y1⟩,⟨m.x1,r.y0,r.x1,r.y1⟩,⟨m.x0,r.y0,m.x1,m.y0⟩,⟨m.x0,m.y1,m.x1,r.y1⟩]
abbrev abo (t:iQ):Prop:=t.area.length<=900∧t.from_.length*8<=140737488355328
theorem abp {t:iQ} (h:abo t):LD t=some t:=by
 unfold LD;have h2:=h.2;rw[Nz (by omega),bind_some,show kG t.from_=some t.from_ from uL (b:=8) (by omega) (by simp only[maxLen];omega),bind_some];simp only[bA,aA,cond_true]
theorem adQ {n:Nat} {land:List iQ} {id:Int} (h:∀ t∈land,abo t) (hl:land.length < 1099511627776) (hn:land.length < n):IA n land id=some (dF land id):=by
 unfold IA;have:=kT (l:=land) (step:=Ew land id) (fun i=>(i:Int)) (fun t=>t.id==id) () (fun i=>(land.getD i acK,true)) (fun i hi=>?_) ?_ n hn
 ·rw[show ((0:Nat):Int)=0 from rfl]at this;rw[this];unfold dF;rcases abm (fun t:iQ=>t.id==id) land with ⟨i,hi,h1,h2⟩ |⟨h1,h2⟩
  ·rw[h1,h2];simp[hi]
  ·rw[h1,h2];rfl
 ·simp only[Ew,dM hi,cond_true,bC hi,bind_some,abp (h _ (getElem_mem hi))];cases land[i].id==id with
  |true=>simp[hi]
  |false=>simp only[cond_false];rw[ay (by omega)]
 ·simp[Ew]
theorem adR {land:List iQ} (h:∀ t∈land,abo t) (id:Int):abo (dF land id).1:=by
 unfold dF;split
 ·rename_i t ht;exact h t (List.mem_of_find?_eq_some ht)
 ·simp[abo,acK]
structure ais (t:wF):Prop where
 rules:t.plan_rules.length<=20
 ruleOk:∀ r∈t.plan_rules,ahw r
 zones:t.plan_zones.length<=20
 land:t.land.length<=20
 lots:∀ l∈t.land,abo l
 easements:t.easements.length<=5
 areas:∀ e∈t.easements,e.area.length<=10
structure ait (X Y:List Int) (es:List Iz):Prop where
 ok:∀ e∈es,rightL e.area=true
 x0:∀ e∈es,∀ c∈e.area,c.x0∈X
 x1:∀ e∈es,∀ c∈e.area,c.x1∈X
 y1:∀ e∈es,∀ c∈e.area,c.y1∈Y
 len:∀ e∈es,e.area.length<=200
 size:X.length*Y.length<=200000
theorem IJ {α W O:Type} {l:List α} {step:Int->Option (Int ⊕ (W ⊕ O))} (p:α->Bool) (w:W) (o:O)
 (h:∀ i (hi:i < l.length),step (i:Int)=some (bif p l[i]then .inr (.inr o)else .inl ((i+1:Nat):Int)))
 (hend:step (l.length:Int)=some (.inr (.inl w))) (n:Nat) (hn:l.length < n):iter step n (0:Int)=some (bif l.any p then .inr o else .inl w):=by
 have:=kT (l:=l) (step:=step) (fun i=>((i:Nat):Int)) p w (fun _=>o) h hend n hn;rw[show ((0:Nat):Int)=0 from rfl]at this;rw[this,<- mR];cases lC p l<;>rfl
theorem afj {V O:Type} {step:V->Option (V ⊕ O)} (Inv:V->Prop) (Q:O->Prop) (m:V->Nat)
 (h:∀ v,Inv v->(∃ v',step v=some (.inl v')∧Inv v'∧m v' < m v)∨∃ o,step v=some (.inr o)∧Q o):
 ∀ n v,Inv v->m v < n->∃ o,iter step n v=some o∧Q o:=by
 intro n
 induction n with
 |zero=>intro v _ hm;omega
 |succ n ih=>
  intro v hv hm;rcases h v hv with ⟨v',h1,h2,h3⟩ |⟨o,h1,h2⟩
  ·obtain⟨o,h4,h5⟩:=ih v' h2 (by omega);exact⟨o,by rw[bP h1];exact h4,h5⟩
  ·exact⟨o,aV h1,h2⟩
theorem bS {V O:Type} {step:V->Option (V ⊕ O)} (f:Nat->V) {s:V} (N:Nat) (o:O) (h0:s=f 0)
 (h1:∀ i,i < N->step (f i)=some (.inl (f (i+1)))) (h2:step (f N)=some (.inr o)) (n:Nat) (hn:N < n):iter step n s=some o:=by rw[h0];exact mQ f N o h1 h2 n hn
def tb (f:Nat->Nat->Bool):List Bool:=(List.range 144).map fun i=>f (i/12) (i%12)
theorem jS (f:Nat->Nat->Bool):(tb f).length=144:=by simp[tb]
theorem Qy (f:Nat->Nat->Bool) {a b:Nat} (ha:a < 12) (hb:b < 12):(tb f)[a*12+b]? =some (f a b):=by
 simp only[tb,List.getElem?_map];rw[List.getElem?_range (by omega)];simp only[Option.map_some,Option.some.injEq];rw[show (a*12+b)/12=a by omega,show (a*12+b)%12=b by omega]
theorem kZ {f g:Nat->Nat->Bool} (h:∀ a b,a < 12->b < 12->f a b=g a b):tb f=tb g:=by
 refine List.map_congr_left fun i hi=>h _ _ ?_ ?_
 ·have:=List.mem_range.1 hi;omega
 ·omega
theorem XO {f g:Nat->Nat->Bool} (h:tb f=tb g) {a b:Nat} (ha:a < 12) (hb:b < 12):f a b=g a b:=by
 have:=congrArg (fun l=>l[a*12+b]?) h;simpa[Qy f ha hb,Qy g ha hb]using this
def upd (f:Nat->Nat->Bool) (a b:Nat) (v:Bool):Nat->Nat->Bool:=fun x y=>if x=a∧y=b then v else f x y
theorem agu (f:Nat->Nat->Bool) {a b:Nat} (ha:a < 12) (hb:b < 12) (v:Bool):(tb f).set (a*12+b) v=tb (upd f a b v):=by
 apply List.ext_getElem?;intro i;rw[List.getElem?_set];simp only[tb,List.getElem?_map,length_map,List.length_range];by_cases hi:i < 144
 ·rw[List.getElem?_range hi];by_cases e:a*12+b=i
  ·rw[if_pos e,if_pos (by omega)];have e1:i/12=a:=(by omega);have e2:i%12=b:=(by omega);simp[upd,e1,e2]
  ·rw[if_neg e];have:¬ (i/12=a∧i%12=b):=(by omega);simp[upd,this]
 ·rw[List.getElem?_eq_none (by simp;omega)];by_cases e:a*12+b=i
  ·omega
  ·rw[if_neg e];rfl
def eD (f:Nat->Nat->Bool):bJ:=⟨tb f,jS f⟩
theorem EI (f:Nat->Nat->Bool):bE (sub (tb f) 0 144)=some (eD f):=by
 have h:sub (tb f) 0 144=tb f:=by rw[Lh,List.take_of_length_le (by rw[jS];omega)]
 unfold bE;rw[dif_pos (by rw[h];exact jS f)];simp[eD,h]
theorem mE {l:List Bool} (f:Nat->Nat->Bool) (h:l.length=144):jV l 0 (tb f)=tb f:=by
 simp only[jV,List.take_zero,nil_append,Nat.zero_add,jS];rw[List.drop_of_length_le (by omega),append_nil]
theorem yN:(List.replicate 144 false).length=144:=by simp
theorem lN:List.replicate 144 false=tb fun _ _=>false:=by
 apply List.ext_getElem?;intro i;simp only[tb,List.getElem?_map,List.getElem?_replicate];by_cases hi:i < 144
 ·rw[if_pos hi,List.getElem?_range hi];rfl
 ·rw[if_neg hi,List.getElem?_eq_none (by simp;omega)];rfl
theorem iW (f g:Nat->Nat->Bool):(eqL (tb f).length 144&&fK 0 (tb f).length (tb g).length)=true:=by simp[jS,eqL,fK]
theorem A7 (f:Nat->Nat->Bool) {a b:Nat} (ha:a < 12) (hb:b < 12):atO (tb f) (0+(a:Int).toNat*12) (b:Int)=some (f a b):=by
 simp only[atO,Nat.zero_add,Int.toNat_natCast,show decide ((0:Int)<=(b:Int))=true by simp,cond_true];exact Qy f ha hb
theorem Ti (f:Nat->Nat->Bool) {a b:Nat} (ha:a < 12) (hb:b < 12):(decide ((0:Int)<=(b:Int))&&fK ((0+(a:Int).toNat*12)+(b:Int).toNat) 1 (tb f).length)=true:=by simp only[fK,jS,Int.toNat_natCast,and_eq_true,decide_eq_true_eq];omega
theorem XP (f:Nat->Nat->Bool) {a b:Nat} (ha:a < 12) (hb:b < 12) (v:Bool):List.set (tb f) ((0+(a:Int).toNat*12)+(b:Int).toNat) v=tb (upd f a b v):=by simp only[Nat.zero_add,Int.toNat_natCast];exact agu f ha hb v
def acL (p:Nat->Bool):Bool:=(List.range 12).any p
theorem C9 {p:Nat->Bool}:acL p=true↔∃ b,b < 12∧p b=true:=by simp only[acL,any_eq_true,List.mem_range]
def rnd (w:Nat->Nat->Bool):Nat->Nat->Bool:=fun a c=>w a c || acL fun b=>w a b&&w b c
theorem Zw {n:Nat} (hn:100<=n) {v2:List Bool} (h2:v2.length=144) (w f:Nat->Nat->Bool) {a b:Nat} (ha:a < 12) (hb:b < 12):
 iter (oW v2 (eD w) (a:Int) (b:Int)) n ((0:Int),tb f)=some (tb fun x y=>if x=a then f x y || (w a b&&w b y)else f x y):=by
 refine bS (fun i=>((i:Int),tb fun x y=>if x=a∧y < i then f x y || (w a b&&w b y)else f x y)) 12 _ (by simp) (fun i hi=>?_) ?_ n (by omega)
 ·have e:decide ((i:Int) < 12)=true:=by simp;omega
  have hw:jV v2 0 (eD w).l=tb w:=mE w h2;simp only[oW,e,cond_true,uj,ha,hb,hi,decide_true,hw];generalize hF:(fun x y=>if x=a∧y < i then f x y || (w a b&&w b y)else f x y:Nat->Nat->Bool)=F;have hFa:F a i=f a i:=by rw[<- hF];simp
  have fin:∀ v,v=(f a i || (w a b&&w b i))->tb (upd F a i v)=tb fun x y=>if x=a∧y < i+1 then f x y || (w a b&&w b y)else f x y:=by
   intro v hv;refine kZ fun x y _ _=>?_;simp only[upd,<- hF];by_cases h1:x=a
   ·subst h1;by_cases h3:y=i
    ·subst h3;simp[hv]
    ·by_cases h4:y < i
     ·simp[h3,h4,show y < i+1 by omega]
     ·simp[h3,h4,show ¬ y < i+1 by omega]
   ·simp[h1]
  simp only[A7 F ha hi,A7 w ha hb,A7 w hb hi,Ti F ha hi,XP F ha hi,bind_some,cond_true,hFa,ay (show i < 9223372036854775807 by omega)];cases h1:f a i with
  |true=>simp only[cond_true,bind_some];rw[fin true (by simp[h1])]
  |false=>
   simp only[cond_false];cases h3:w a b with
   |true=>simp only[cond_true,bind_some];rw[fin (w b i) (by simp[h1,h3]),h3]
   |false=>simp only[cond_false,bind_some];rw[fin false (by simp[h1,h3]),h3]
 ·have e:decide (((12:Nat):Int) < 12)=false:=by decide
  simp only[oW,e,cond_false];rw[kZ fun x y _ hy=>?_];by_cases h1:x=a<;>simp[h1,hy]
theorem Zx {n:Nat} (hn:100<=n) {v2:List Bool} (h2:v2.length=144) (w f:Nat->Nat->Bool) {a:Nat} (ha:a < 12):
 iter (oZ n v2 (eD w) (a:Int)) n ((0:Int),tb f)=some (tb fun x y=>if x=a then f x y || acL (fun b=>w a b&&w b y)else f x y):=by
 refine bS (fun i=>((i:Int),tb fun x y=>if x=a then f x y || (List.range i).any (fun b=>w a b&&w b y)else f x y)) 12 _ (by simp) (fun i hi=>?_) ?_ n (by omega)
 ·have e:decide ((i:Int) < 12)=true:=by simp;omega
  simp only[oZ,e,cond_true];rw[Zw hn h2 w _ ha hi];simp only[bind_some,ay (show i < 9223372036854775807 by omega)];rw[kZ fun x y _ _=>?_];by_cases h1:x=a
  ·simp[h1,List.range_succ,Bool.or_assoc]
  ·simp[h1]
 ·have e:decide (((12:Nat):Int) < 12)=false:=by decide
  simp only[oZ,e,cond_false];rfl
theorem Zy {n:Nat} (hn:100<=n) {v2:List Bool} (h2:v2.length=144) (w:Nat->Nat->Bool):
 iter (o8 n v2 (eD w)) n ((0:Int),tb w)=some (tb (rnd w)):=by
 refine bS (fun i=>((i:Int),tb fun x y=>if x < i then rnd w x y else w x y)) 12 _ (by simp) (fun i hi=>?_) ?_ n (by omega)
 ·have e:decide ((i:Int) < 12)=true:=by simp;omega
  simp only[o8,e,cond_true];rw[Zx hn h2 w _ hi];simp only[bind_some,ay (show i < 9223372036854775807 by omega)];rw[kZ fun x y _ _=>?_];by_cases h1:x=i
  ·subst h1;simp[rnd]
  ·by_cases h3:x < i
   ·simp[h1,h3,show x < i+1 by omega]
   ·simp[h1,h3,show ¬ x < i+1 by omega]
 ·have e:decide (((12:Nat):Int) < 12)=false:=by decide
  simp only[o8,e,cond_false];rw[kZ fun x y hx _=>?_];simp[hx]
def cnt (l:List Bool):Nat:=l.countP id
theorem afk (l:List Bool):cnt l<=l.length:=List.countP_le_length
theorem cnt_lt:∀ {l m:List Bool},l.length=m.length->(∀ (i:Nat) (h:i < l.length) (h':i < m.length),l[i]=true->m[i]=true)->l≠m->cnt l < cnt m
 |[],[],_,_,h=>absurd rfl h
 |x::l,y::m,hl,hs,hne=>by
  have h0:=hs 0 (by simp) (by simp);have ht:∀ (i:Nat) (h:i < l.length) (h':i < m.length),l[i]=true->m[i]=true:=fun i h h'=>by
   have:=hs (i+1) (by simpa using h) (by simpa using h');simp only[List.getElem_cons_succ]at this;exact this
  simp only[List.getElem_cons_zero]at h0;have hl':l.length=m.length:=by simpa using hl
  have hle:cnt l<=cnt m:=by
   by_cases e:l=m
   ·rw[e];exact Nat.le_refl _
   ·exact Nat.le_of_lt (cnt_lt hl' ht e)
  simp only[cnt,List.countP_cons,id]at hle ⊢;by_cases e:l=m
  ·subst e;have:x≠y:=fun e=>hne (by rw[e]);cases x<;>cases y<;>simp_all
  ·have:=cnt_lt hl' ht e;simp only[cnt]at this;cases x<;>cases y<;>simp_all<;>omega
 |[],_::_,h,_,_=>by simp at h
 |_::_,[],h,_,_=>by simp at h
theorem agv {w:Nat->Nat->Bool} (h:tb w≠tb (rnd w)):cnt (tb w) < cnt (tb (rnd w)):=by
 refine cnt_lt (by rw[jS,jS]) (fun i h1 h2 hi=>?_) h;simp only[tb,List.getElem_map,List.getElem_range,rnd]at hi ⊢;simp[hi]
inductive Tc (e:Nat->Nat->Bool):Nat->Nat->Prop
 |one {a b:Nat}:a < 12->b < 12->e a b=true->Tc e a b
 |trans {a b c:Nat}:Tc e a b->Tc e b c->Tc e a c
theorem Tc.lt {e:Nat->Nat->Bool} {a b:Nat} (h:Tc e a b):a < 12∧b < 12:=by
 induction h with
 |one h1 h2 _=>exact⟨h1,h2⟩
 |trans _ _ i1 i2=>exact⟨i1.1,i2.2⟩
theorem LZ {n:Nat} (hn:400<=n) (m0:Nat->Nat->Bool):∃ r:Nat->Nat->Bool,qF n (eD m0)=some (eD r)∧(∀ a b,a < 12->b < 12->(r a b=true↔Tc m0 a b)):=by
 unfold qF;simp only[lN,iW,cond_true,mE _ (jS _)]
 obtain⟨o,h1,r,rfl,hr1,hr2,hr3⟩:=afj (step:=vG n)
  (fun v=>∃ m w:Nat->Nat->Bool,v=(tb m,tb w)∧(∀ a b,a < 12->b < 12->m0 a b=true->m a b=true)∧(∀ a b,a < 12->b < 12->m a b=true->Tc m0 a b)∧(tb m=tb (rnd w)∨tb w=tb fun _ _=>false))
  (fun o=>∃ r:Nat->Nat->Bool,o=tb r∧(∀ a b,a < 12->b < 12->m0 a b=true->r a b=true)∧(∀ a b,a < 12->b < 12->r a b=true->Tc m0 a b)∧tb r=tb (rnd r))
  (fun v=>2*(144 - cnt v.1)+(if v.2=v.1 then 0 else 1)) (by
   rintro v ⟨m,w,rfl,h1,h2,h3⟩;simp only[vG,EI,bind_some];by_cases he:tb w=tb m
   ·refine .inr ⟨tb m,?_,m,rfl,h1,h2,?_⟩
    ·have:Xi (eD w).l (eD m).l=true:=(by show decide (tb w=tb m)=true;simp[he]);simp[this]
    ·rcases h3 with h3 |h3
     ·rw[h3];refine kZ fun a b ha hb=>?_;have hwm:∀ x y,x < 12->y < 12->w x y=m x y:=fun x y hx hy=>XO he hx hy;simp only[rnd,hwm a b ha hb];congr 1;rw[Bool.eq_iff_iff,C9,C9];constructor
      ·rintro⟨c,hc,h⟩;exact⟨c,hc,by rw[<- hwm a c ha hc,<- hwm c b hc hb];exact h⟩
      ·rintro⟨c,hc,h⟩;exact⟨c,hc,by rw[hwm a c ha hc,hwm c b hc hb];exact h⟩
     ·have hm0:∀ x y,x < 12->y < 12->m x y=false:=fun x y hx hy=>XO (he.symm.trans h3) hx hy;refine kZ fun a b ha hb=>?_;simp only[rnd,hm0 a b ha hb,Bool.false_or];symm;rw[Bool.eq_false_iff];intro h;obtain⟨c,hc,h⟩:=C9.1 h;rw[hm0 a c ha hc]at h;simp at h
   ·refine .inl ⟨(tb (rnd m),tb m),?_,⟨rnd m,m,rfl,fun a b ha hb h=>by simp[rnd,h1 a b ha hb h],fun a b ha hb h=>?_,.inl rfl⟩,?_⟩
    ·have:Xi (eD w).l (eD m).l=false:=(by show decide (tb w=tb m)=false;simp[he]);simp only[this,Bool.not_false,cond_true,bind_some];have e1:(eqL (eD m).l.length 144&&fK 0 (eD m).l.length (tb w).length)=true:=iW m w;have e2:jV (tb w) 0 (eD m).l=tb m:=mE m (jS w);simp only[e1,cond_true,Zy (show 100<=n by omega) (jS w) m,bind_some,e2,EI];have e3:(eqL (eD m).l.length 144&&fK 0 (eD m).l.length (List.replicate 144 false).length)=true:=(by rw[lN];exact iW m _);have e4:jV (List.replicate 144 false) 0 (eD m).l=tb m:=mE m yN;simp only[e3,e4,cond_true]
    ·simp only[rnd,Bool.or_eq_true]at h;rcases h with h |h
     ·exact h2 a b ha hb h
     ·obtain⟨c,hc,h⟩:=C9.1 h;simp only[and_eq_true]at h;exact .trans (h2 a c ha hc h.1) (h2 c b hc hb h.2)
    ·simp only;have hc:=afk (tb m);rw[jS]at hc;rw[if_neg he];by_cases hr:tb m=tb (rnd m)
     ·rw[if_pos hr,<- hr];omega
     ·have:=agv hr;have hc2:=afk (tb (rnd m));rw[jS]at hc2;rw[if_neg hr];omega)
  n (tb m0,tb fun _ _=>false) ⟨m0,fun _ _=>false,rfl,fun _ _ _ _ h=>h,fun a b ha hb h=> .one ha hb h,.inr rfl⟩ (by
    simp only;split<;>omega)
 have e0:(eD m0).l=tb m0:=rfl;simp only[e0,h1,bind_some,EI];have e3:(eqL (eD r).l.length 144&&fK 0 (eD r).l.length (tb fun _ _=>false).length)=true:=iW r _;have e4:jV (tb fun _ _=>false) 0 (eD r).l=tb r:=mE r (jS _);simp only[e3,e4,cond_true,EI,bind_some];refine⟨r,rfl,fun a b ha hb=>⟨hr2 a b ha hb,fun h=>?_⟩⟩
 induction h with
 |one h1 h2 h3=>exact hr1 _ _ h1 h2 h3
 | @trans x y z p q i1 i2=>
  have:=XO hr3 p.lt.1 q.lt.2;rw[this];simp only[rnd,Bool.or_eq_true];exact .inr (C9.2 ⟨y,p.lt.2,by rw[i1 p.lt.1 p.lt.2,i2 q.lt.1 q.lt.2];rfl⟩)
def NH (o:aN) (p:kF):Bool:=decide (0<=min p.a0 p.a1)&&decide (max p.a0 p.a1 < o.values)
def mF (o:aN):Bool:=decide (1<=o.values)&&decide (o.values<=12)&&decide (o.pairs.length<=144)&&o.pairs.all (NH o)
theorem IK {α:Type} (p:α->Bool) (l:List α):(match lC (fun x=>!(p x)) l with |some _=>false |none=>true)=l.all p:=by
 have h:=mR (fun x=>!(p x)) l;cases hf:lC (fun x=>!(p x)) l with
 |some i=>
  rw[hf]at h;simp only[Option.isSome_some]at h;have:l.all p=false:=by rw[List.all_eq_not_any_not];rw[<- h];rfl
  rw[this]
 |none=>
  rw[hf]at h;simp only[Option.isSome_none]at h;have:l.all p=true:=by rw[List.all_eq_not_any_not];rw[<- h];rfl
  rw[this]
theorem Fv {n:Nat} (hn:200<=n) (o:aN):qD n o=some (mF o):=by
 unfold qD mF;by_cases h1:o.values < 1
 ·have:decide (1<=o.values)=false:=by simp;omega
  simp[h1,this]
 ·have e1:decide (1<=o.values)=true:=by simp;omega
  by_cases h2:o.values>12
  ·have:decide (o.values<=12)=false:=(by simp;omega);simp[h1,h2,this]
  ·have e2:decide (o.values<=12)=true:=(by simp;omega);by_cases h3:(o.pairs.length:Int)>144
   ·have:decide (o.pairs.length<=144)=false:=(by simp;omega);simp[h1,h2,h3,this]
   ·have e3:decide (o.pairs.length<=144)=true:=(by simp;omega);have hl:o.pairs.length<=144:=(by omega);simp only[h1,h2,h3,e1,e2,e3,decide_false,cond_false,bind_some,Bool.true_and];have:=kT (l:=o.pairs) (step:=oU o) (fun i=>(i:Int)) (fun p=>!(NH o p)) () (fun _=>false) (fun i hi=>by
     have e:decide ((i:Int) < (o.pairs.length:Int))=true:=(by simpa using hi);simp only[oU,e,cond_true,bC hi,bind_some,NH,ay (show i < 9223372036854775807 by omega)];by_cases h4:min o.pairs[i].a0 o.pairs[i].a1 < 0
     ·have:decide (0<=min o.pairs[i].a0 o.pairs[i].a1)=false:=(by simpa using h4);simp only[h4,this,decide_true,cond_true,bind_some,Bool.false_and,Bool.not_false,Option.map_some]
     ·have:decide (0<=min o.pairs[i].a0 o.pairs[i].a1)=true:=(by simpa using h4);simp only[h4,this,decide_false,cond_false,bind_some,Bool.true_and];by_cases h5:max o.pairs[i].a0 o.pairs[i].a1>=o.values
      ·have:decide (max o.pairs[i].a0 o.pairs[i].a1 < o.values)=false:=(by simpa using h5);simp only[h5,this,decide_true,cond_true,Bool.not_false,Option.map_some]
      ·have:decide (max o.pairs[i].a0 o.pairs[i].a1 < o.values)=true:=(by simp only[decide_eq_true_eq];omega);simp only[h5,this,decide_false,cond_false,Bool.not_true]) (by
     have e:decide ((o.pairs.length:Int) < (o.pairs.length:Int))=false:=(by simp);simp only[oU,e,cond_false]) n (by omega)
    rw[show ((0:Nat):Int)=0 from rfl]at this;rw[this];have hf:=IK (NH o) o.pairs;cases hx:lC (fun p=>!(NH o p)) o.pairs with
    |some i=>rw[hx]at hf;simp only[sM];rw[<- hf]
    |none=>rw[hx]at hf;simp only[fV];rw[<- hf]
def eO (o:aN) (a b:Nat):Bool:=o.pairs.any fun p=>decide (p.a0=(a:Int))&&decide (p.a1=(b:Int))
theorem agx (l:List kF) (x y:Nat) (p:kF) (h0:p.a0=(x:Int)) (h1:p.a1=(y:Int)):upd (fun (a b:Nat)=>l.any fun p=>decide (p.a0=(a:Int))&&decide (p.a1=(b:Int))) x y true=fun (a b:Nat)=>(l++[p]).any fun p=>decide (p.a0=(a:Int))&&decide (p.a1=(b:Int)):=by
 funext a b;simp only[upd,List.any_append,List.any_cons,List.any_nil,Bool.or_false,h0,h1];by_cases h:a=x∧b=y
 ·obtain⟨rfl,rfl⟩:=h;simp
 ·rw[if_neg h];have:(decide ((x:Int)=(a:Int))&&decide ((y:Int)=(b:Int)))=false:=by
   simp only[Bool.and_eq_false_iff,decide_eq_false_iff_not];omega
  rw[this,Bool.or_false]
theorem abq {o:aN} (hv:mF o=true) {p:kF} (hp:p∈o.pairs):∃ x y:Nat,p.a0=(x:Int)∧p.a1=(y:Int)∧(x:Int) < o.values∧(y:Int) < o.values∧x < 12∧y < 12:=by
 simp only[mF,and_eq_true,decide_eq_true_eq,all_eq_true]at hv;obtain⟨⟨⟨h1,h2⟩,h3⟩,h4⟩:=hv;have:=h4 p hp;simp only[NH,and_eq_true,decide_eq_true_eq]at this;refine⟨p.a0.toNat,p.a1.toNat,?_,?_,?_,?_,?_,?_⟩<;>omega
theorem Fw {n:Nat} (hn:200<=n) {o:aN} (hv:mF o=true):qE n o=some (eD (eO o)):=by
 have hl:o.pairs.length<=144:=by simp only[mF,and_eq_true,decide_eq_true_eq]at hv;exact hv.1.2
 have:=bS (step:=oV o) (fun i=>((i:Int),tb fun a b=>(o.pairs.take i).any fun p=>decide (p.a0=(a:Int))&&decide (p.a1=(b:Int)))) (s:=((0:Int),List.replicate 144 false)) o.pairs.length (tb (eO o)) (by
  simp only[List.take_zero,List.any_nil,lN];rfl) (fun i hi=>by
  have e:decide ((i:Int) < (o.pairs.length:Int))=true:=by simpa using hi
  obtain⟨x,y,h0,h1,_,_,hx,hy⟩:=abq hv (getElem_mem hi);have e2:o.pairs.take (i+1)=o.pairs.take i++[o.pairs[i]]:=by rw[take_succ_eq_append_getElem hi]
  simp only[oV,e,cond_true,bC hi,bind_some,h0,h1,uj,hx,hy,decide_true,ay (show i < 9223372036854775807 by omega)];rw[Ti _ hx hy,XP _ hx hy,e2,agx _ x y _ h0 h1];simp only[cond_true]) (by
  have e:decide ((o.pairs.length:Int) < (o.pairs.length:Int))=false:=by simp
  simp only[oV,e,cond_false,List.take_length];rfl) n (by omega)
 unfold qE;rw[this];have e3:(eqL (eD (eO o)).l.length 144&&fK 0 (eD (eO o)).l.length (List.replicate 144 false).length)=true:=by rw[lN];exact iW _ _
 have e4:jV (List.replicate 144 false) 0 (eD (eO o)).l=tb (eO o):=mE _ yN;simp only[bind_some,EI,e3,e4,cond_true]
open Classical in
noncomputable def tcB (e:Nat->Nat->Bool) (a b:Nat):Bool:=decide (Tc e a b)
theorem L6 {e:Nat->Nat->Bool} {a b:Nat}:tcB e a b=true↔Tc e a b:=by simp[tcB]
theorem Pz {n:Nat} (hn:400<=n) (m0:Nat->Nat->Bool):qF n (eD m0)=some (eD (tcB m0)):=by
 obtain⟨r,h1,h2⟩:=LZ hn m0;rw[h1];have:tb r=tb (tcB m0):=kZ fun a b ha hb=>by rw[Bool.eq_iff_iff,L6];exact h2 a b ha hb
 simp only[eD,this]
open Classical in
noncomputable def Tj (o:aN):Bool:=decide (∃ a,Tc (eO o) a a)
theorem Zz {o:aN}:Tj o=true↔∃ a,Tc (eO o) a a:=by simp[Tj]
noncomputable def geO (o:aN) (a b:Nat):Bool:=tcB (eO o) a b || (decide (a=b)&&decide ((a:Int) < o.values))
def zeroM:bJ:=eD fun _ _=>false
theorem ZA:(bif eqL (List.replicate 144 false).length 144&&fK 0 (List.replicate 144 false).length (List.replicate 144 false).length then (bE (sub (jV (List.replicate 144 false) 0 (List.replicate 144 false)) 0 144)).bind fun z1=>some (z1,false)else none)=some (zeroM,false):=by simp only[lN,iW,cond_true,mE _ (jS _),EI,bind_some];rfl
theorem sV {n:Nat} (hn:400<=n) (o:aN):kX n o=some (bif mF o&&!(Tj o)then (eD (geO o),true)else (zeroM,false)):=by
 unfold kX;rw[Fv (by omega),ZA];simp only[bind_some];cases hv:mF o with
 |false=>simp
 |true=>
  have hb:1<=o.values∧o.values<=12:=by simp only[mF,and_eq_true,decide_eq_true_eq]at hv;exact⟨hv.1.1.1,hv.1.1.2⟩
  simp only[Bool.not_true,cond_false,Fw (show 200<=n by omega) hv,bind_some,Pz hn,Bool.true_and];have e3:(eqL (eD (tcB (eO o))).l.length 144&&fK 0 (eD (tcB (eO o))).l.length (List.replicate 144 false).length)=true:=by rw[lN];exact iW _ _
  have e4:jV (List.replicate 144 false) 0 (eD (tcB (eO o))).l=tb (tcB (eO o)):=mE _ yN;simp only[e3,e4,cond_true];have h1:=kT (l:=List.range 12) (step:=mV (eD (tcB (eO o)))) (fun i=>(i:Int)) (fun a=>tcB (eO o) a a) () (fun _=>(zeroM,false)) (fun i hi=>by
   rw[List.length_range]at hi;have e:decide ((i:Int) < 12)=true:=(by simp;omega);simp only[mV,e,cond_true,uj,hi,decide_true,e4,A7 _ hi hi,bind_some,List.getElem_range,ay (show i < 9223372036854775807 by omega)];cases tcB (eO o) i i with
   |false=>rfl
   |true=>
    have:=ZA;have e5:(eqL (List.replicate 144 false).length 144&&fK 0 (List.replicate 144 false).length (List.replicate 144 false).length)=true:=(by rw[lN];exact iW _ _);simp only[e5,cond_true]at this ⊢;rw[this];rfl) (by
   rw[List.length_range];have e:decide (((12:Nat):Int) < 12)=false:=(by decide);simp only[mV,e,cond_false]) n (by simp;omega)
  rw[show ((0:Nat):Int)=0 from rfl]at h1;rw[h1];have hs:=mR (fun a=>tcB (eO o) a a) (List.range 12);have hcy:Tj o=(List.range 12).any fun a=>tcB (eO o) a a:=by
   rw[Bool.eq_iff_iff,Zz,any_eq_true];constructor
   ·rintro⟨a,ha⟩;exact⟨a,List.mem_range.2 ha.lt.1,L6.2 ha⟩
   ·rintro⟨a,_,ha⟩;exact⟨a,L6.1 ha⟩
  rw[hcy,<- hs];cases hf:lC (fun a=>tcB (eO o) a a) (List.range 12)with
  |some i=>simp only[sM,Option.isSome_some,Bool.not_true,cond_false]
  |none=>
   simp only[fV,Option.isSome_none,Bool.not_false,cond_true];obtain⟨m,hm⟩:∃ m:Nat,o.values=(m:Int):=⟨o.values.toNat,by omega⟩;have h2:=bS (step:=mW o) (fun i=>((i:Int),tb fun a b=>tcB (eO o) a b || (decide (a=b)&&decide (a < i)))) (s:=((0:Int),tb (tcB (eO o)))) m (tb (geO o)) (by simp) (fun i hi=>by
    have e:decide ((i:Int) < o.values)=true:=(by simp;omega);have hi12:i < 12:=(by omega);simp only[mW,e,cond_true,uj,hi12,decide_true,ay (show i < 9223372036854775807 by omega)];rw[Ti _ hi12 hi12,XP _ hi12 hi12];simp only[cond_true];rw[kZ fun a b _ _=>?_];simp only[upd];by_cases h:a=i∧b=i
    ·obtain⟨rfl,rfl⟩:=h;simp
    ·rw[if_neg h];by_cases h4:a=b
     ·subst h4;have:¬ a=i:=fun h5=>h ⟨h5,h5⟩;have e6:decide (a < i+1)=decide (a < i):=(by simp only[decide_eq_decide];omega);rw[e6]
     ·simp[h4]) (by
    have e:decide ((m:Int) < o.values)=false:=(by simp;omega);simp only[mW,e,cond_false];rw[kZ fun a b _ _=>?_];simp only[geO,hm,Int.ofNat_lt]) n (by omega)
   rw[h2];have e7:(eqL (eD (geO o)).l.length 144&&fK 0 (eD (geO o)).l.length (List.replicate 144 false).length)=true:=(by rw[lN];exact iW _ _);have e8:jV (List.replicate 144 false) 0 (eD (geO o)).l=tb (geO o):=mE _ yN;simp only[bind_some,EI,e7,e8,cond_true]
def vl (d:Nat->Nat):List Int:=(List.range 12).map fun i=>((d i:Nat):Int)
theorem NI (d:Nat->Nat):(vl d).length=12:=by simp[vl]
theorem ahx (d:Nat->Nat) {x:Nat} (hx:x < 12):(vl d)[x]? =some ((d x:Nat):Int):=by
 simp only[vl,List.getElem?_map];rw[List.getElem?_range (by omega)];rfl
theorem ZB {d d':Nat->Nat} (h:∀ x,x < 12->d x=d' x):vl d=vl d':=by
 refine List.map_congr_left fun i hi=>?_;rw[h i (List.mem_range.1 hi)]
def XQ (d:Nat->Nat) (x v:Nat):Nat->Nat:=fun y=>if y=x then v else d y
theorem ahy (d:Nat->Nat) {x:Nat} (hx:x < 12) (v:Nat):(vl d).set x ((v:Nat):Int)=vl (XQ d x v):=by
 apply List.ext_getElem?;intro i;rw[List.getElem?_set];simp only[vl,List.getElem?_map,length_map,List.length_range];by_cases hi:i < 12
 ·rw[List.getElem?_range hi];by_cases e:x=i
  ·subst e;simp[XQ,hx]
  ·rw[if_neg e];simp[XQ,show ¬ i=x from fun h=>e h.symm]
 ·rw[List.getElem?_eq_none (by simp;omega)];by_cases e:x=i
  ·omega
  ·rw[if_neg e];rfl
def vlM (d:Nat->Nat):uN:=⟨vl d,NI d⟩
theorem aia (d:Nat->Nat):sP (sub (vl d) 0 12)=some (vlM d):=by
 have h:sub (vl d) 0 12=vl d:=by rw[Lh,List.take_of_length_le (by rw[NI];omega)]
 unfold sP;rw[dif_pos (by rw[h];exact NI d)];simp[vlM,h]
theorem XR {l:List Int} (d:Nat->Nat) (h:l.length=12):jV l 0 (vl d)=vl d:=by
 simp only[jV,List.take_zero,nil_append,Nat.zero_add,NI];rw[List.drop_of_length_le (by omega),append_nil]
theorem NJ:(List.replicate 12 (0:Int)).length=12:=by simp
theorem XT (d:Nat->Nat):(eqL (vl d).length 12&&fK 0 (vl d).length (List.replicate 12 (0:Int)).length)=true:=by simp[NI,eqL,fK]
theorem XU (d:Nat->Nat) {x:Nat} (hx:x < 12):atO (vl d) 0 (x:Int)=some ((d x:Nat):Int):=by
 simp only[atO,Nat.zero_add,Int.toNat_natCast,show decide ((0:Int)<=(x:Int))=true by simp,cond_true];exact ahx d hx
theorem XV (d:Nat->Nat) {x:Nat} (hx:x < 12):(decide ((0:Int)<=(x:Int))&&fK (0+(x:Int).toNat) 1 (vl d).length)=true:=by simp only[fK,NI,Int.toNat_natCast,and_eq_true,decide_eq_true_eq];omega
theorem abr (d:Nat->Nat) {x:Nat} (hx:x < 12) (v:Nat):List.set (vl d) (0+(x:Int).toNat) ((v:Nat):Int)=vl (XQ d x v):=by simp only[Nat.zero_add,Int.toNat_natCast];exact ahy d hx v
theorem ahz:List.replicate 12 (0:Int)=vl fun _=>0:=by
 apply List.ext_getElem?;intro i;simp only[vl,List.getElem?_map,List.getElem?_replicate];by_cases hi:i < 12
 ·rw[if_pos hi,List.getElem?_range hi];rfl
 ·rw[if_neg hi,List.getElem?_eq_none (by simp;omega)];rfl
def rel (e:Nat->Nat->Bool) (a x y:Nat) (d:Nat->Nat):Nat->Nat:=if e x y=true∧x≠a then XQ d x (min (d x) (d y+1))else d
def EJ (e:Nat->Nat->Bool) (a x k:Nat) (d:Nat->Nat):Nat->Nat:=(List.range' a k).foldl (fun d y=>rel e a x y d) d
def J5 (e:Nat->Nat->Bool) (a k:Nat) (d:Nat->Nat):Nat->Nat:=(List.range' a k).foldl (fun d x=>EJ e a x (12 - a) d) d
def Fx (e:Nat->Nat->Bool) (a k:Nat):Nat->Nat:=(List.range k).foldl (fun d _=>J5 e a (12 - a) d) (fun x=>if x=a then 0 else 13)
def fJ (e:Nat->Nat->Bool) (a:Nat):Nat->Nat:=Fx e a 12
theorem afl (e:Nat->Nat->Bool) (a x y:Nat) (d:Nat->Nat) (z:Nat):rel e a x y d z<=d z:=by
 unfold rel;split
 ·simp only[XQ];split
  ·rename_i h;subst h;exact Nat.min_le_left _ _
  ·exact Nat.le_refl _
 ·exact Nat.le_refl _
theorem Da {α:Type} (f:(Nat->Nat)->α->Nat->Nat) (hf:∀ d x z,f d x z<=d z):∀ (l:List α) (d:Nat->Nat) (z:Nat),l.foldl f d z<=d z
 |[],_,_=>Nat.le_refl _
 |x::l,d,z=>Nat.le_trans (Da f hf l _ z) (hf d x z)
theorem NK (e:Nat->Nat->Bool) (a x k:Nat) (d:Nat->Nat) (z:Nat):EJ e a x k d z<=d z:=Da _ (fun d y z=>afl e a x y d z) _ d z
theorem NN (e:Nat->Nat->Bool) (a k:Nat) (d:Nat->Nat) (z:Nat):J5 e a k d z<=d z:=Da _ (fun d x z=>NK e a x _ d z) _ d z
theorem ZC (e:Nat->Nat->Bool) (a k:Nat) (z:Nat):Fx e a k z<=13:=by
 refine Nat.le_trans (Da _ (fun d _ z=>NN e a _ d z) _ _ z) ?_;split<;>omega
theorem range'_succ (a k:Nat):List.range' a (k+1)=List.range' a k++[a+k]:=by rw[List.range'_concat];simp
theorem abt {n:Nat} (hn:100<=n) (e:Nat->Nat->Bool) {a x:Nat} (ha:a < 12) (hx:x < 12) (d:Nat->Nat) (hd:∀ z,d z<=13):
 iter (qO (eD e) (a:Int) (x:Int)) n ((a:Int),vl d)=some (vl (EJ e a x (12 - a) d)):=by
 refine bS (fun i=>(((a+i:Nat):Int),vl (EJ e a x i d))) (12 - a) _ (by simp[EJ]) (fun i hi=>?_) ?_ n (by omega)
 ·have e1:decide (((a+i:Nat):Int) < 12)=true:=by simp only[decide_eq_true_eq];omega
  have h12:a+i < 12:=by omega
  generalize hD:EJ e a x i d=D;have hDle:∀ z,D z<=13:=fun z=>by rw[<- hD];exact Nat.le_trans (NK _ _ _ _ _ _) (hd z)
  have hN:EJ e a x (i+1) d=rel e a x (a+i) D:=by rw[<- hD];simp[EJ,range'_succ,List.foldl_append]
  have hM:(eD e).l=tb e:=rfl;simp only[qO,e1,cond_true,uj,hx,h12,decide_true,hM,A7 e hx h12,bind_some,ay (show a+i < 9223372036854775807 by omega)];rw[hN,show a+(i+1)=a+i+1 by omega];cases h1:e x (a+i)with
  |false=>simp only[cond_false,bind_some,rel,h1];simp
  |true=>
   simp only[cond_true,bind_some];by_cases h2:x=a
   ·have:((x:Int) != (a:Int))=false:=(by subst h2;simp);simp only[this,cond_false,bind_some,rel];simp[h2]
   ·have:((x:Int) != (a:Int))=true:=(by simp;omega);simp only[this,cond_true,XU D hx,XU D h12,bind_some];have e2:min ((D x:Nat):Int) (i64.wrap (((D (a+i):Nat):Int)+1))=((min (D x) (D (a+i)+1):Nat):Int):=(by rw[ay (by have:=hDle (a+i);omega)];omega);simp only[e2,XV D hx,abr D hx,cond_true,bind_some];simp only[rel,h1,ne_eq,h2,not_false_eq_true,and_self,if_true]
 ·have e1:decide (((a+(12 - a):Nat):Int) < 12)=false:=by simp only[decide_eq_false_iff_not];omega
  simp only[qO,e1,cond_false]
theorem abu {n:Nat} (hn:100<=n) (e:Nat->Nat->Bool) {a:Nat} (ha:a < 12) (d:Nat->Nat) (hd:∀ z,d z<=13):
 iter (qP n (eD e) (a:Int)) n ((a:Int),vl d)=some (vl (J5 e a (12 - a) d)):=by
 refine bS (fun i=>(((a+i:Nat):Int),vl (J5 e a i d))) (12 - a) _ (by simp[J5]) (fun i hi=>?_) ?_ n (by omega)
 ·have e1:decide (((a+i:Nat):Int) < 12)=true:=by simp only[decide_eq_true_eq];omega
  simp only[qP,e1,cond_true];rw[abt hn e ha (show a+i < 12 by omega) _ fun z=>Nat.le_trans (NN _ _ _ _ _) (hd z)];simp only[bind_some,ay (show a+i < 9223372036854775807 by omega)];rw[show a+(i+1)=a+i+1 by omega];simp[J5,range'_succ,List.foldl_append]
 ·have e1:decide (((a+(12 - a):Nat):Int) < 12)=false:=by simp only[decide_eq_false_iff_not];omega
  simp only[qP,e1,cond_false]
theorem abv {n:Nat} (hn:100<=n) (e:Nat->Nat->Bool) {a:Nat} (ha:a < 12):
 iter (qQ n (eD e) (a:Int)) n ((0:Int),vl fun x=>if x=a then 0 else 13)=some (vl (fJ e a)):=by
 refine bS (fun i=>((i:Int),vl (Fx e a i))) 12 _ (by simp[Fx]) (fun i hi=>?_) ?_ n (by omega)
 ·have e1:decide ((i:Int) < 12)=true:=by simp only[decide_eq_true_eq];omega
  simp only[qQ,e1,cond_true];rw[abu hn e ha _ fun z=>ZC _ _ _ z];simp only[bind_some,ay (show i < 9223372036854775807 by omega)];simp[Fx,List.range_succ,List.foldl_append]
 ·have e1:decide (((12:Nat):Int) < 12)=false:=by decide
  simp only[qQ,e1,cond_false];rfl
theorem Hz {n:Nat} (hn:100<=n) (e:Nat->Nat->Bool) {a:Nat} (ha:a < 12):uV n (eD e) (a:Int)=some (vlM (fJ e a)):=by
 have h1:iter qN n ((0:Int),List.replicate 12 (0:Int))=some (vl fun _=>13):=by
  refine bS (fun i=>((i:Int),vl fun x=>if x < i then 13 else 0)) 12 _ (by rw[ahz];simp) (fun i hi=>?_) ?_ n (by omega)
  ·have e1:decide ((i:Int) < 12)=true:=(by simp only[decide_eq_true_eq];omega);have e2:(13:Int)=((13:Nat):Int):=rfl;simp only[qN,e1,cond_true,uj,hi,decide_true,ay (show i < 9223372036854775807 by omega),XV _ hi];rw[e2,abr _ hi 13];rw[ZB fun x _=>?_];simp only[XQ];by_cases h:x=i
   ·subst h;simp
   ·rw[if_neg h];by_cases h3:x < i
    ·simp[h3,show x < i+1 by omega]
    ·simp[h3,show ¬ x < i+1 by omega]
  ·have e1:decide (((12:Nat):Int) < 12)=false:=(by decide);simp only[qN,e1,cond_false];rw[ZB fun x hx=>?_];rw[if_pos hx]
 unfold uV;rw[h1];have e0:(0:Int)=((0:Nat):Int):=rfl;have e5:List.set (vl fun _=>13) (0+(a:Int).toNat) (0:Int)=vl fun x=>if x=a then 0 else 13:=by rw[e0,abr _ ha 0];rfl
 have e7:(eqL (vlM (fJ e a)).l.length 12&&fK 0 (vlM (fJ e a)).l.length (List.replicate 12 (0:Int)).length)=true:=XT _;have e8:jV (List.replicate 12 (0:Int)) 0 (vlM (fJ e a)).l=vl (fJ e a):=XR _ NJ;simp only[bind_some,uj,ha,decide_true,cond_true,XV _ ha,e5,abv hn e ha,aia,e7,e8]
inductive Wy (e:Nat->Nat->Bool) (a:Nat):Nat->Nat->Prop
 |nil:Wy e a a 0
 |step {x y k:Nat}:a<=x->x < 12->x≠a->a<=y->y < 12->e x y=true->Wy e a y k->Wy e a x (k+1)
theorem gM {a k x:Nat}:x∈List.range' a k↔a<=x∧x < a+k:=by
 rw[List.mem_range'];constructor
 ·rintro⟨i,h1,h2⟩;omega
 ·rintro⟨h1,h2⟩;exact⟨x - a,by omega,by omega⟩
theorem xL {α β:Type} (P:β->Prop) (f:β->α->β):∀ (l:List α) (b:β),P b->(∀ b,P b->∀ x∈l,P (f b x))->P (l.foldl f b)
 |[],_,h,_=>h
 |x::l,b,h,hf=>xL P f l _ (hf b h x (by simp)) fun b hb y hy=>hf b hb y (by simp[hy])
def Snd (e:Nat->Nat->Bool) (a:Nat) (d:Nat->Nat):Prop:=∀ x,d x < 13->Wy e a x (d x)
theorem agy {e:Nat->Nat->Bool} {a x y:Nat} {d:Nat->Nat} (hx:a<=x∧x < 12) (hy:a<=y∧y < 12) (h:Snd e a d):Snd e a (rel e a x y d):=by
 unfold rel;split
 ·rename_i h1;intro z hz;simp only[XQ]at hz ⊢;split at hz
  ·rename_i h2;subst h2;rw[if_pos rfl];by_cases h3:d z<=d y+1
   ·rw[Nat.min_eq_left h3]at hz ⊢;exact h z hz
   ·rw[Nat.min_eq_right (by omega)]at hz ⊢;exact .step hx.1 hx.2 h1.2 hy.1 hy.2 h1.1 (h y (by omega))
  ·rename_i h2;rw[if_neg h2];exact h z hz
 ·exact h
theorem ZE (e:Nat->Nat->Bool) {a:Nat} (ha:a < 12) (k:Nat):Snd e a (Fx e a k):=by
 refine xL _ _ _ _ (fun x hx=>?_) fun d hd _ _=>xL _ _ _ _ hd fun d hd x hx=>xL _ _ _ _ hd fun d hd y hy=>?_
 ·split at hx
  ·rename_i h;subst h;rw[if_pos rfl];exact .nil
  ·omega
 ·rw[gM]at hx hy;exact agy (by omega) (by omega) hd
theorem ZF {α:Type} (f:(Nat->Nat)->α->Nat->Nat) (hf:∀ d x z,f d x z<=d z) (l:List α) (x:α) (hx:x∈l) (P:(Nat->Nat)->Prop) (hP:∀ d d',P d->(∀ z,d' z<=d z)->P d') (Q:(Nat->Nat)->Prop) (hQ:∀ d d',Q d->(∀ z,d' z<=d z)->Q d') (h:∀ d,P d->Q (f d x)) (d:Nat->Nat) (hd:P d):Q (l.foldl f d):=by
 obtain⟨l1,l2,rfl⟩:=List.append_of_mem hx;rw[List.foldl_append,foldl_cons];exact hQ _ _ (h _ (hP _ _ hd fun z=>Da f hf l1 d z)) fun z=>Da f hf l2 _ z
theorem ZG (e:Nat->Nat->Bool) {a:Nat} (ha:a < 12):∀ k x j,Wy e a x j->j<=k->Fx e a k x<=j:=by
 intro k
 induction k with
 |zero=>
  intro x j h hj;cases h with
  |nil=>simp[Fx]
  |step=>omega
 |succ k ih=>
  intro x j h hj;have e1:Fx e a (k+1)=J5 e a (12 - a) (Fx e a k):=by simp[Fx,List.range_succ,List.foldl_append]
  rw[e1];cases h with
  |nil=>exact Nat.le_trans (NN _ _ _ _ _) (ih _ _ .nil (by omega))
  | @step _ y j h1 h2 h3 h4 h5 h6 h7=>
   refine ZF (fun d x=>EJ e a x (12 - a) d) (fun d x z=>NK e a x _ d z) (List.range' a (12 - a)) x (gM.2 (by omega)) (fun d=>d y<=j) (fun d d' h h'=>Nat.le_trans (h' y) h) (fun d=>d x<=j+1) (fun d d' h h'=>Nat.le_trans (h' x) h) (fun d hd=>?_) _ (ih y j h7 (by omega));refine ZF (fun d y=>rel e a x y d) (fun d y z=>afl e a x y d z) (List.range' a (12 - a)) y (gM.2 (by omega)) (fun d=>d y<=j) (fun d d' h h'=>Nat.le_trans (h' y) h) (fun d=>d x<=j+1) (fun d d' h h'=>Nat.le_trans (h' x) h) (fun d hd=>?_) _ hd;simp only[rel,h6,ne_eq,h3,not_false_eq_true,and_self,if_true,XQ];omega
def Mn (e:Nat->Nat->Bool) (a x k:Nat):Prop:=Wy e a x k∧∀ j,Wy e a x j->k<=j
theorem acM {e:Nat->Nat->Bool} {a x k:Nat} (h:Mn e a x (k+1)):∃ y,a<=y∧y < 12∧e x y=true∧Mn e a y k:=by
 obtain⟨h,hm⟩:=h;cases h with
 | @step _ y _ h1 h2 h3 h4 h5 h6 h7=>
  refine⟨y,h4,h5,h6,h7,fun j hj=>?_⟩;have:=hm _ (.step h1 h2 h3 h4 h5 h6 hj);omega
theorem agz {e:Nat->Nat->Bool} {a:Nat} (ha:a < 12):∀ k x,Mn e a x k->∃ l:List Nat,l.length=k+1∧l.Nodup∧∀ y∈l,y < 12∧∃ j,j<=k∧Mn e a y j:=by
 intro k
 induction k with
 |zero=>
  intro x h;refine⟨[x],rfl,by simp,fun y hy=>?_⟩;simp only[mem_singleton]at hy;subst hy;refine⟨?_,0,Nat.le_refl _,h⟩;cases h.1;exact ha
 |succ k ih=>
  intro x h;obtain⟨y,h1,h2,h3,h4⟩:=acM h;obtain⟨l,h5,h6,h7⟩:=ih y h4;refine⟨x::l,by simp[h5],?_,fun z hz=>?_⟩
  ·rw[List.nodup_cons];refine⟨fun hx=>?_,h6⟩;obtain⟨_,j,hj,hm⟩:=h7 x hx;have:=h.2 _ hm.1;omega
  ·rcases mem_cons.1 hz with rfl |hz
   ·refine⟨?_,k+1,Nat.le_refl _,h⟩;cases h.1 with
    |step _ h=>exact h
   ·obtain⟨h8,j,hj,hm⟩:=h7 z hz;exact⟨h8,j,by omega,hm⟩
theorem ZH:∀ (N:Nat) (l:List Nat),l.Nodup->(∀ y∈l,y < N)->l.length<=N
 | 0,[],_,_=>Nat.le_refl _
 | 0,x::l,_,h=>absurd (h x (by simp)) (by omega)
 |N+1,l,hn,h=>by
  have h1:=ZH N (l.filter fun y=>decide (y≠N)) (hn.filter _) (fun y hy=>by
   rw[List.mem_filter]at hy;have:=h y hy.1;have:=hy.2;simp only[decide_eq_true_eq]at this;omega)
  have h2:=List.length_eq_countP_add_countP (fun y=>decide (y≠N)) (l:=l);rw[List.countP_eq_length_filter]at h2;have h3:List.countP (fun a=>decide ¬(decide (a≠N)=true)) l=l.count N:=by
   rw[List.count];refine List.countP_congr fun y _=>?_;simp
  have h4:=List.nodup_iff_count.1 hn N;omega
theorem aib {e:Nat->Nat->Bool} {a:Nat} (ha:a < 12) {k x:Nat} (h:Mn e a x k):k<=11:=by
 obtain⟨l,h1,h2,h3⟩:=agz ha k x h;have:=ZH 12 l h2 fun y hy=>(h3 y hy).1;omega
theorem aic {e:Nat->Nat->Bool} {a:Nat}:∀ k x,Wy e a x k->∃ j,Mn e a x j:=by
 intro k
 induction k using Nat.strongRecOn with
 |ind k ih=>
  intro x h;by_cases hm:∀ j,Wy e a x j->k<=j
  ·exact⟨k,h,hm⟩
  ·simp only[Classical.not_forall,Nat.not_le]at hm;obtain⟨j,hj,hlt⟩:=hm;exact ih j hlt x hj
theorem acN (e:Nat->Nat->Bool) {a:Nat} (ha:a < 12) {x k:Nat} (h:Mn e a x k):fJ e a x=k:=by
 have h1:=aib ha h;have h2:=ZG e ha 12 x k h.1 (by omega);have h3:=ZE e ha 12 x (by omega);have:=h.2 _ h3;show Fx e a 12 x=k;omega
theorem agA (e:Nat->Nat->Bool) {a:Nat} (ha:a < 12) {x:Nat} (h:fJ e a x < 13):Mn e a x (fJ e a x):=by
 obtain⟨j,hj⟩:=aic _ _ (ZE e ha 12 x h);rw[acN e ha hj];exact hj
def Wj (e:Nat->Nat->Bool) (d:Nat->Nat) (x:Nat) (s:Nat×Nat) (y:Nat):Nat×Nat:=if e x y=true∧d y+1 < s.1 then (d y+1,x)else s
def XW (e:Nat->Nat->Bool) (x k:Nat) (s:Nat×Nat):Nat×Nat:=(List.range' x k).foldl (Wj e (fJ e x) x) s
def Fy (e:Nat->Nat->Bool) (k:Nat):Nat×Nat:=(List.range k).foldl (fun s x=>XW e x (12 - x) s) (13,0)
theorem abw {n:Nat} (hn:100<=n) (e:Nat->Nat->Bool) {x:Nat} (hx:x < 12) (s:Nat×Nat):
 iter (nu (eD e) (x:Int) (vlM (fJ e x))) n ((s.1:Int),(s.2:Int),(x:Int))=some (((XW e x (12 - x) s).1:Int),((XW e x (12 - x) s).2:Int)):=by
 refine bS (fun i=>(((XW e x i s).1:Int),((XW e x i s).2:Int),((x+i:Nat):Int))) (12 - x) _ (by simp[XW]) (fun i hi=>?_) ?_ n (by omega)
 ·have e1:decide (((x+i:Nat):Int) < 12)=true:=by simp only[decide_eq_true_eq];omega
  have h12:x+i < 12:=by omega
  generalize hD:XW e x i s=D;have hN:XW e x (i+1) s=Wj e (fJ e x) x D (x+i):=by rw[<- hD];simp[XW,range'_succ,List.foldl_append]
  have hM:(eD e).l=tb e:=rfl;have hV:jV (List.replicate 12 (0:Int)) 0 (vlM (fJ e x)).l=vl (fJ e x):=XR _ NJ;have hle:=ZC e x 12 (x+i);have hle:fJ e x (x+i)<=13:=hle;simp only[nu,e1,cond_true,uj,hx,h12,decide_true,hM,hV,A7 e hx h12,XU _ h12,bind_some,ay (show x+i < 9223372036854775807 by omega),ay (show fJ e x (x+i) < 9223372036854775807 by omega)];rw[hN,show x+(i+1)=x+i+1 by omega];cases h1:e x (x+i)with
  |false=>simp only[cond_false,bind_some,Wj,h1];simp
  |true=>
   simp only[cond_true,bind_some];by_cases h2:fJ e x (x+i)+1 < D.1
   ·have:decide (((fJ e x (x+i)+1:Nat):Int) < (D.1:Int))=true:=(by simp only[decide_eq_true_eq];omega);simp only[this,cond_true,bind_some,Wj,h1,h2,and_self,if_true]
   ·have:decide (((fJ e x (x+i)+1:Nat):Int) < (D.1:Int))=false:=(by simp only[decide_eq_false_iff_not];omega);simp only[this,cond_false,bind_some,Wj,h1,h2,and_false,if_false]
 ·have e1:decide (((x+(12 - x):Nat):Int) < 12)=false:=by simp only[decide_eq_false_iff_not];omega
  simp only[nu,e1,cond_false]
theorem abx {n:Nat} (hn:100<=n) (e:Nat->Nat->Bool):
 iter (ny n (eD e)) n ((13:Int),(0:Int),(0:Int))=some (((Fy e 12).1:Int),((Fy e 12).2:Int)):=by
 refine bS (fun i=>(((Fy e i).1:Int),((Fy e i).2:Int),(i:Int))) 12 _ (by simp[Fy]) (fun i hi=>?_) ?_ n (by omega)
 ·have e1:decide ((i:Int) < 12)=true:=by simp only[decide_eq_true_eq];omega
  have hM:(eD e).l=tb e:=rfl;have hV:(eqL (vlM (fJ e i)).l.length 12&&fK 0 (vlM (fJ e i)).l.length (List.replicate 12 (0:Int)).length)=true:=XT _;simp only[ny,e1,cond_true,hM,EI,bind_some,Hz hn e hi,hV,abw hn e hi,ay (show i < 9223372036854775807 by omega)];simp[Fy,List.range_succ,List.foldl_append]
 ·have e1:decide (((12:Nat):Int) < 12)=false:=by decide
  simp only[ny,e1,cond_false]
def OkC (e:Nat->Nat->Bool) (s:Nat×Nat):Prop:=s=(13,0)∨s.2 < 12∧s.1<=12∧∃ y,s.2<=y∧y < 12∧e s.2 y=true∧fJ e s.2 y+1=s.1
theorem afm (e:Nat->Nat->Bool) {k:Nat} (hk:k<=12):OkC e (Fy e k):=by
 refine xL _ _ _ _ (.inl rfl) fun s hs x hx=>xL _ _ _ _ hs fun s hs y hy=>?_;rw[List.mem_range]at hx;rw[gM]at hy;unfold Wj;split
 ·rename_i h;refine .inr ⟨by show x < 12;omega,?_,y,hy.1,by omega,h.1,rfl⟩;show fJ e x y+1<=12;rcases hs with rfl |⟨_,h2,_⟩
  ·have:=h.2;simp only at this;omega
  ·omega
 ·exact hs
def Wl (e:Nat->Nat->Bool) (w x k:Nat):Option Nat:=(List.range' w (12 - w)).find? fun v=>e x v&&decide (fJ e w v=k)
def ZI (e:Nat->Nat->Bool) (w:Nat):Nat->Nat->List Nat
 | 0,x=>[x]
 |k+1,x=>x::match Wl e w x (k+1)with
  |some v=>ZI e w k v
  |none=>[]
def XY (e:Nat->Nat->Bool):List Nat:=if (Fy e 12).1=13 then []else ZI e (Fy e 12).2 ((Fy e 12).1 - 1) (Fy e 12).2
theorem Tk {e:Nat->Nat->Bool} {w x k v:Nat} (h:Wl e w x k=some v):w<=v∧v < 12∧e x v=true∧fJ e w v=k:=by
 have h1:=List.mem_of_find?_eq_some h;have h2:=List.find?_some h;rw[gM]at h1;simp only[and_eq_true,decide_eq_true_eq]at h2;by_cases hw:w<=12
 ·exact⟨h1.1,by omega,h2⟩
 ·omega
theorem afn {e:Nat->Nat->Bool} {w x k y:Nat} (h1:w<=y) (h2:y < 12) (h3:e x y=true) (h4:fJ e w y=k):∃ v,Wl e w x k=some v:=by
 cases h:Wl e w x k with
 |some v=>exact⟨v,rfl⟩
 |none=>
  unfold Wl at h;rw[List.find?_eq_none]at h;exact absurd (by simp[h3,h4]) (h y (gM.2 (by omega)))
theorem aby {p:Nat->Bool} {w k v:Nat} (h:(List.range' w k).find? p=some v):w<=v∧p v=true∧∀ i,w<=i->i < v->p i=false:=by
 have h1:=List.mem_of_find?_eq_some h;rw[gM]at h1;refine⟨h1.1,List.find?_some h,fun i hi hv=>?_⟩;rw[List.find?_eq_some_iff_append]at h;obtain⟨_,l1,l2,h2,h3⟩:=h;have h4:i∈l1:=by
  have hm:i∈List.range' w k:=gM.2 (by omega);rw[h2]at hm;rcases mem_append.1 hm with hm |hm
  ·exact hm
  ·have hp:(List.range' w k).Pairwise (· < ·):=List.pairwise_lt_range';rw[h2,pairwise_append]at hp;rcases mem_cons.1 hm with rfl |hm
   ·omega
   ·have:=(pairwise_cons.1 hp.2.1).1 i hm;omega
 have:=h3 i h4;simpa using this
theorem abz {n:Nat} (hn:100<=n) (e:Nat->Nat->Bool) {w x v:Nat} (hx:x < 12) (b k:Nat) (hb:b<=12) (pre:List Int) (hk:pre.length+1+k=b) (hv:Wl e w x k=some v):
 iter (nC (eD e) (b:Int) (vlM (fJ e w))) n ((w:Int),pre++[(x:Int)])=some (pre++[(x:Int)]++[(v:Int)]):=by
 have hv2:=Tk hv;obtain⟨h1,h2,h3⟩:=aby hv;have hM:(eD e).l=tb e:=rfl;have hV:jV (List.replicate 12 (0:Int)) 0 (vlM (fJ e w)).l=vl (fJ e w):=XR _ NJ;have hlen:(pre++[(x:Int)]).length=pre.length+1:=by simp
 have hlast:at? (pre++[(x:Int)]) (((0:Nat):Int)+((pre.length:Nat):Int))=some (x:Int):=by rw[Ep];simp
 have hw1:i64.wrap (((pre.length+1:Nat):Int) - 1)=((pre.length:Nat):Int):=by rw[mO (by omega) (by omega)];congr 1
 have hw2:i64.wrap ((b:Int) - ((pre.length+1:Nat):Int))=(k:Int):=by rw[dH]<;>omega
 have body:∀ i:Nat,i < 12->nC (eD e) (b:Int) (vlM (fJ e w)) ((i:Int),pre++[(x:Int)])=some (bif e x i&&decide (fJ e w i=k)then .inr (pre++[(x:Int)]++[(i:Int)])else .inl (((i+1:Nat):Int),pre++[(x:Int)])):=by
  intro i hi;have hin:decide (pre.length < pre.length+1)=true:=by simp
  have hs1:sub ([(i:Int)]:List Int) 0 1=[(i:Int)]:=rfl;have hap:bG (pre.length+1) (pre.length+1) 1 1 8=true:=bZ (by omega) (by simp only[maxLen];omega);simp only[nC,hlen,hw1,hw2,uj,hin,hlast,cond_true,bind_some,hx,hi,decide_true,hM,hV,A7 e hx hi,XU _ hi,hs1,length_singleton,hap,fe,aA,ay (show i < 9223372036854775807 by omega)];cases h1:e x i with
  |false=>simp only[cond_false,bind_some,Bool.false_and]
  |true=>
   have:(((fJ e w i:Nat):Int)==(k:Int))=decide (fJ e w i=k):=(by rw[Bool.eq_iff_iff,beq_iff_eq,decide_eq_true_eq];omega);simp only[cond_true,bind_some,Bool.true_and,this];cases decide (fJ e w i=k)<;>rfl
 refine bS (fun i=>(((w+i:Nat):Int),pre++[(x:Int)])) (v - w) _ (by simp) (fun i hi=>?_) ?_ n (by omega)
 ·rw[body _ (by omega),h3 (w+i) (by omega) (by omega),show w+(i+1)=w+i+1 by omega];rfl
 ·rw[show w+(v - w)=v by omega,body _ hv2.2.1,h2];rfl
theorem Tm {m:Nat} (hm:100<=m) (e:Nat->Nat->Bool) {w:Nat} (hw:w < 12) (b:Nat) (hb:b<=12):∀ k n x (pre:List Int),k < n->x < 12->pre.length+1+k=b->(k=0∨∃ y,w<=y∧y < 12∧e x y=true∧fJ e w y=k)->
 iter (nD m (eD e) (b:Int) (w:Int) (vlM (fJ e w))) n (pre++[(x:Int)])=some (pre++(ZI e w k x).map fun i:Nat=>(i:Int))
 | 0,n,x,pre,hn,hx,hl,_=>by
  obtain⟨n,rfl⟩:∃ k,n=k+1:=⟨n - 1,by omega⟩;have e1:decide ((((pre++[(x:Int)]).length:Nat):Int) < (b:Int))=false:=by simp only[decide_eq_false_iff_not,length_append,length_singleton];omega
  refine aV ?_;simp only[nD,e1,cond_false,aA,cond_true,ZI,map_cons,map_nil]
 |k+1,n,x,pre,hn,hx,hl,hy=>by
  obtain⟨n,rfl⟩:∃ k,n=k+1:=⟨n - 1,by omega⟩;have e1:decide ((((pre++[(x:Int)]).length:Nat):Int) < (b:Int))=true:=by simp only[decide_eq_true_eq,length_append,length_singleton];omega
  rcases hy with hy |⟨y,h1,h2,h3,h4⟩
  ·omega
  ·obtain⟨v,hv⟩:=afn h1 h2 h3 h4;have hv2:=Tk hv;rw[bP (v':=pre++[(x:Int)]++[(v:Int)])]
   ·rw[Tm hm e hw b hb k n v (pre++[(x:Int)]) (by omega) hv2.2.1 (by simp;omega) ?_]
    ·simp only[ZI,hv,map_cons,List.append_assoc,List.singleton_append]
    ·by_cases hk:k=0
     ·exact .inl hk
     ·refine .inr ?_;have hl:=agA e hw (x:=v) (by omega);rw[hv2.2.2.2]at hl;obtain⟨z,h5,h6,h7,h8⟩:=acM hl;exact⟨z,h5,h6,h7,by rw[acN e hw h8]⟩
   ·simp only[nD,e1,cond_true,aA,abz hm e hx b (k+1) hb pre hl hv,bind_some]
theorem NP {n:Nat} (hn:100<=n) (e:Nat->Nat->Bool):uo n (eD e)=some ((XY e).map fun i:Nat=>(i:Int)):=by
 unfold uo XY;rw[abx hn];simp only[bind_some];rcases afm e (Nat.le_refl 12)with h |⟨h1,h2,y,h3,h4,h5,h6⟩
 ·rw[h];simp
 ·generalize Fy e 12=s at h1 h2 h3 h4 h5 h6;obtain⟨b,w⟩:=s;simp only at h1 h2 h3 h4 h5 h6 ⊢;have e1:((b:Int)==13)=false:=by simp;omega
  have hM:(eD e).l=tb e:=rfl;have hV:(eqL (vlM (fJ e w)).l.length 12&&fK 0 (vlM (fJ e w)).l.length (List.replicate 12 (0:Int)).length)=true:=XT _;have:=Tm hn e h1 b h2 (b - 1) n w [] (by omega) h1 (by simp;omega) (.inr ⟨y,h3,h4,h5,by omega⟩);simp only[nil_append]at this;simp only[e1,cond_false,hM,EI,bind_some,Hz hn e h1,hV,cond_true,length_singleton,aA,this,bA];rw[if_neg (by omega)]
theorem NQ {l:List Bool} (h:l.length < 1099511627776):Bz l=some l:=uL (b:=1) (by omega) (by simp only[maxLen];omega)
noncomputable def mG (o:aN):List (List Bool):=(List.range o.values.toNat).map fun a=>(List.range o.values.toNat).map fun b=>geO o a b
noncomputable def yO (o:aN):List (List Bool)×List Int×Int:=
 bif !(mF o)then ([],[],1)else bif Tj o then ([],(XY (eO o)).map (fun i:Nat=>(i:Int)),16)else (mG o,[],0)
theorem agB (f:Nat->Nat->Bool) {a m:Nat} (ha:a < 12) (hm:m<=12):sub (tb f) (0+a*12) m=(List.range m).map (f a):=by
 apply List.ext_getElem?;intro i;simp only[sub,List.getElem?_take,List.getElem?_drop,List.getElem?_map];by_cases hi:i < m
 ·rw[if_pos hi,show 0+a*12+i=a*12+i by omega,Qy f ha (by omega),List.getElem?_range hi];rfl
 ·rw[if_neg hi,List.getElem?_eq_none (by simp;omega)];rfl
theorem L8 {n:Nat} (hn:400<=n) (o:aN):qR n o=some (yO o):=by
 unfold qR yO;rw[sV hn,Fv (by omega)];simp only[bind_some];cases hv:mF o with
 |false=>
  have e1:(eqL zeroM.l.length 144&&fK 0 zeroM.l.length (List.replicate 144 false).length)=true:=by rw[lN];exact iW (fun _ _=>false) _
  simp only[Bool.false_and,cond_false,e1,cond_true,Bool.not_false]
 |true=>
  cases hc:Tj o with
  |true=>
   have e1:(eqL zeroM.l.length 144&&fK 0 zeroM.l.length (List.replicate 144 false).length)=true:=(by rw[lN];exact iW (fun _ _=>false) _);simp only[Bool.true_and,Bool.not_true,cond_false,e1,cond_true,Bool.not_false,Fw (show 200<=n by omega) hv,bind_some,NP (show 100<=n by omega),bA,aA]
  |false=>
   have e1:(eqL (eD (geO o)).l.length 144&&fK 0 (eD (geO o)).l.length (List.replicate 144 false).length)=true:=(by rw[lN];exact iW _ _);have e2:jV (List.replicate 144 false) 0 (eD (geO o)).l=tb (geO o):=mE _ yN;have hb:1<=o.values∧o.values<=12:=(by simp only[mF,and_eq_true,decide_eq_true_eq]at hv;exact⟨hv.1.1.1,hv.1.1.2⟩);obtain⟨m,hm⟩:∃ m:Nat,o.values=(m:Int):=⟨o.values.toNat,by omega⟩;have hz:eqL 0 ([]:List (List Bool)).length=true:=rfl;have key:iter (lF o (eD (geO o),true)) n ((0:Int),([]:List (List Bool)))=some (mG o):=by
    refine bS (fun i=>((i:Int),(List.range i).map fun a=>(List.range m).map fun b=>geO o a b)) m _ (by simp) (fun i hi=>?_) ?_ n (by omega)
    ·have e:decide ((i:Int) < o.values)=true:=(by simp;omega);have hi12:i < 12:=(by omega);have hslok:sH 0 o.values 12=true:=xJ (by omega) (by omega) (by omega);have hfit:fK (0+i*12) 12 (tb (geO o)).length=true:=(by simp only[fK,jS,decide_eq_true_eq];omega);have hmt:o.values.toNat=m:=(by omega);have hrl:((List.range m).map (geO o i)).length=m:=(by simp);have hs1:∀ r:List Bool,sub ([r]:List (List Bool)) 0 1=[r]:=fun _=>rfl;have hap:∀ k:Nat,k < 12->bG k k 1 1 24=true:=fun k hk=>bZ (by omega) (by simp only[maxLen];omega);simp only[lF,e,cond_true,uj,hi12,decide_true,e2,Int.toNat_natCast,hslok,hfit,hmt,agB (geO o) hi12 (show m<=12 by omega),hrl,aA,Bool.and_self,NQ (l:=(List.range m).map (geO o i)) (by rw[hrl];omega),bind_some,bA,hs1,length_singleton,length_map,List.length_range,hap i hi12,fe,ay (show i < 9223372036854775807 by omega)];have e3:sub (List.map (geO o i) (List.range m)) 0 m=List.map (geO o i) (List.range m):=(by rw[Lh,List.take_of_length_le (by simp)]);simp[e3,List.range_succ]
    ·have e:decide ((m:Int) < o.values)=false:=(by simp;omega);simp only[lF,e,cond_false,aA,cond_true];simp only[mG,hm,Int.toNat_natCast]
   simp only[Bool.not_false,Bool.and_self,cond_true,e1,Bool.not_true,cond_false,hz,key,bind_some,bA,aA]
def okO (o:aN):Prop:=mF o=true∧Tj o=false
noncomputable def vQ (o:aN):Bool:=mF o&&!(Tj o)
theorem abA {o:aN} (h:vQ o=true):yO o=(mG o,[],0):=by
 simp only[vQ,and_eq_true,Bool.not_eq_true']at h;simp[yO,h.1,h.2]
theorem ZJ {o:aN} (h:vQ o=false):(yO o).2.2≠0:=by
 unfold vQ at h;unfold yO;cases hv:mF o with
 |false=>simp
 |true=>rw[hv]at h;simp only[Bool.true_and,Bool.not_eq_false']at h;rw[h];simp
abbrev Mx:=List (List (List Bool))
noncomputable def j3 (os:List aN):Option Mx:=if os.length<=12∧os.all vQ=true then some (os.map mG)else none
def ahA:Option Mx->Mx×Bool
 |some M=>(M,true)
 |none=>([],false)
theorem agC {n:Nat} (hn:400<=n) (os:List aN):qU n os=some (ahA (j3 os)):=by
 unfold qU j3;by_cases hl:os.length<=12
 ·have e1:decide ((os.length:Int)>12)=false:=by simp;omega
  have hz:eqL 0 ([]:Mx).length=true:=rfl;have key:=kT (l:=os) (step:=lG n os) (fun i=>((i:Int),(os.take i).map mG)) (fun o=>!(vQ o)) (os.map mG) (fun _=>(([]:Mx),false)) (fun i hi=>by
   have e:decide ((i:Int) < (os.length:Int))=true:=(by simpa using hi);have h1:((os.take i).map mG).length=i:=(by simp;omega);have hs1:∀ r:List (List Bool),sub ([r]:Mx) 0 1=[r]:=fun _=>rfl;have hap:bG i i 1 1 24=true:=bZ (by omega) (by simp only[maxLen];omega);simp only[lG,e,cond_true,bC hi,bind_some,L8 hn];cases hk:vQ os[i]with
   |true=>
    simp only[abA hk,bne_self_eq_false,cond_false,bA,aA,cond_true,h1,hs1,length_singleton,hap,fe,Bool.not_true,ay (show i < 9223372036854775807 by omega)];rw[take_succ_eq_append_getElem hi,map_append];rfl
   |false=>
    have:((yO os[i]).2.2 != 0)=true:=(by simpa using ZJ hk);simp only[this,cond_true,Bool.not_false,Option.map_some]) (by
   have e:decide ((os.length:Int) < (os.length:Int))=false:=(by simp);simp only[lG,e,cond_false,aA,cond_true,List.take_length]) n (by omega)
  simp only[List.take_zero,map_nil]at key;rw[show ((0:Nat):Int)=0 from rfl]at key;simp only[e1,cond_false,hz,cond_true,key];have hf:=IK vQ os;cases hx:lC (fun o=>!(vQ o)) os with
  |some i=>rw[hx]at hf;simp only at hf;simp only[sM];rw[if_neg (by rw[<- hf];simp)];rfl
  |none=>rw[hx]at hf;simp only at hf;simp only[fV,bA,aA,cond_true];rw[if_pos ⟨hl,hf.symm⟩];rfl
 ·have e1:decide ((os.length:Int)>12)=true:=by simp;omega
  simp only[e1,cond_true];rw[if_neg (by omega)];rfl
def Wm (M:Mx) (v:List Int) (i:Nat):Bool:=match v[i]?,M[i]? with
 |some x,some R=>decide (0<=x)&&decide (x < (R.length:Int))
 |_,_=>false
def lV (M:Mx) (v:List Int):Bool:=decide (v.length=M.length)&&(List.range M.length).all (Wm M v)
theorem Pf {n:Nat} (M:Mx) (v:List Int) (hn:M.length < n) (hm:M.length < 9223372036854775807):bU n M v=some (lV M v):=by
 unfold bU lV;by_cases hl:v.length=M.length
 ·have e1:((v.length:Int) != (M.length:Int))=false:=by simp;omega
  have key:=kT (l:=List.range M.length) (step:=dY M v) (fun i=>(i:Int)) (fun i=>!(Wm M v i)) () (fun _=>false) (fun i hi=>by
   rw[List.length_range]at hi;have hv:i < v.length:=(by omega);have e:decide ((i:Int) < (v.length:Int))=true:=(by simpa using hv);simp only[dY,e,cond_true,bC hv,bC hi,bind_some,List.getElem_range,Wm,List.getElem?_eq_getElem hv,List.getElem?_eq_getElem hi,ay (show i < 9223372036854775807 by omega)];by_cases h1:v[i] < 0
   ·have:decide (0<=v[i])=false:=(by simpa using h1);simp only[h1,this,decide_true,cond_true,bind_some,Bool.false_and,Bool.not_false,Option.map_some]
   ·have:decide (0<=v[i])=true:=(by simpa using h1);simp only[h1,this,decide_false,cond_false,bind_some,Bool.true_and];by_cases h2:v[i]>=(M[i].length:Int)
    ·have:decide (v[i] < (M[i].length:Int))=false:=(by simpa using h2);simp only[h2,this,decide_true,cond_true,Bool.not_false,Option.map_some]
    ·have:decide (v[i] < (M[i].length:Int))=true:=(by simp only[decide_eq_true_eq];omega);simp only[h2,this,decide_false,cond_false,Bool.not_true]) (by
   rw[List.length_range];have e:decide ((M.length:Int) < (v.length:Int))=false:=(by simp;omega);simp only[dY,e,cond_false]) n (by simpa using hn)
  rw[show ((0:Nat):Int)=0 from rfl]at key;simp only[e1,cond_false,key];simp only[hl,decide_true,Bool.true_and];have hf:=IK (Wm M v) (List.range M.length);cases hx:lC (fun i=>!(Wm M v i)) (List.range M.length)with
  |some i=>rw[hx]at hf;simp only at hf;simp only[sM];rw[<- hf]
  |none=>rw[hx]at hf;simp only at hf;simp only[fV];rw[<- hf]
 ·have e1:((v.length:Int) != (M.length:Int))=true:=by simp;omega
  simp[e1,hl]
theorem ZK {V:Type} (k k':Int) (v:V):∀ l:List (Int×V),eY iEq k (rC iEq k' v l)=if k=k' then some v else eY iEq k l
 |[]=>by
  by_cases h:k=k'
  ·simp[eY,rC,iEq,h]
  ·have h':(k==k')=false:=(by simpa using h);simp[eY,rC,iEq,h,h']
 |p::r=>by
  have ih:=ZK k k' v r;by_cases h1:k'=p.1
  ·subst h1;by_cases h2:k=p.1
   ·simp[rC,eY,iEq,h2]
   ·have h2':(k==p.1)=false:=(by simpa using h2);simp[rC,eY,iEq,h2,h2']
  ·have h1':(k'==p.1)=false:=(by simpa using h1);by_cases h2:k=p.1
   ·have h3:¬ p.1=k':=fun h=>h1 h.symm;simp[rC,eY,iEq,h1',h2,h3]
   ·have h2':(k==p.1)=false:=(by simpa using h2);simp only[rC,iEq,h1',cond_false,eY,h2'];simpa only[iEq]using ih
def Tn (l:List aB):List (Int×Bool):=l.foldl (fun m c=>rC iEq c.id true m) []
theorem abB (k:Int) (l:List aB):(eY iEq k (Tn l)).getD false=l.any fun c=>decide (k=c.id):=by
 have main:∀ (l:List aB) (m:List (Int×Bool)),(eY iEq k (l.foldl (fun m c=>rC iEq c.id true m) m)).getD false=((l.any fun c=>decide (k=c.id)) || (eY iEq k m).getD false):=by
  intro l
  induction l with
  |nil=>intro m;simp
  |cons c l ih=>
   intro m;rw[foldl_cons,ih,ZK,List.any_cons];by_cases h:k=c.id
   ·simp[h]
   ·rw[if_neg h];simp[h]
 have:=main l [];simpa[Tn,eY]using this
def HV (M:Mx) (base:List aB) (i:Nat):Bool:=match base[i]? with
 |some c=>!((base.take i).any fun b=>decide (c.id=b.id))&&lV M c.values
 |none=>false
def goodB (M:Mx) (base:List aB):Bool:=(List.range base.length).all (HV M base)
noncomputable def dJ (os:List aN) (base:List aB):Mx×Bool:=match j3 os with
 |some M=>if goodB M base=true then (M,decide (base.length<=2000))else ([],false)
 |none=>([],false)
theorem HY {os:List aN} {M:Mx} (h:j3 os=some M):M.length=os.length∧os.length<=12:=by
 unfold j3 at h;split at h
 ·rename_i h1;injection h with h;subst h;simp[h1.1]
 ·cases h
theorem L9 {n:Nat} (hn:400<=n) (os:List aN) (base:List aB) (hb:base.length < n) (hb2:base.length < 9223372036854775807):gY n os base=some (dJ os base):=by
 unfold gY dJ;rw[agC hn];simp only[bind_some];cases hr:j3 os with
 |none=>
  simp only[ahA];cases hbase:base with
  |nil=>
   have h1:iter (dZ n [] (([]:Mx),false)) n ((0:Int),([]:List (Int×Bool)))=some (.inl ()):=by
    obtain⟨m,rfl⟩:∃ m,n=m+1:=⟨n - 1,by omega⟩;exact aV rfl
   rw[h1];rfl
  |cons c r=>
   have h1:iter (dZ n (c::r) (([]:Mx),false)) n ((0:Int),([]:List (Int×Bool)))=some (.inr ([],false)):=by
    obtain⟨m,rfl⟩:∃ m,n=m+1:=⟨n - 1,by omega⟩;refine aV ?_;have e:decide ((0:Int) < (((c::r).length:Nat):Int))=true:=(by simp only[length_cons,decide_eq_true_eq];omega);simp only[dZ,e,cond_true,agm (l:=c::r) (by simp),bind_some,Bool.not_false,Option.map_some]
   rw[h1];rfl
 |some M=>
  obtain⟨hM1,hM2⟩:=HY hr;simp only[ahA];have key:=kT (l:=List.range base.length) (step:=dZ n base (M,true)) (fun i=>((i:Int),Tn (base.take i))) (fun i=>!(HV M base i)) () (fun _=>(([]:Mx),false)) (fun i hi=>by
   rw[List.length_range]at hi;have e:decide ((i:Int) < (base.length:Int))=true:=(by simpa using hi);simp only[dZ,e,cond_true,bC hi,bind_some,Bool.not_true,cond_false,abB,List.getElem_range,HV,List.getElem?_eq_getElem hi,bA,aA,Pf (n:=n) M _ (by omega) (by omega),ay (show i < 9223372036854775807 by omega)];have e4:Tn (base.take (i+1))=rC iEq base[i].id true (Tn (base.take i)):=(by rw[take_succ_eq_append_getElem hi];simp only[Tn,List.foldl_append,foldl_cons,List.foldl_nil]);rw[e4];cases (base.take i).any fun c=>decide (base[i].id=c.id)with
   |true=>simp only[cond_true,bind_some,Bool.not_true,Bool.false_and,Bool.not_false,Option.map_some]
   |false=>
    simp only[cond_false,bind_some,Bool.not_false,Bool.true_and];cases lV M base[i].values<;>rfl) (by
   rw[List.length_range];have e:decide ((base.length:Int) < (base.length:Int))=false:=(by simp);simp only[dZ,e,cond_false]) n (by simpa using hb)
  simp only[List.take_zero]at key;rw[show ((0:Nat):Int)=0 from rfl,show Tn []=[]from rfl]at key;rw[key];have hf:=IK (HV M base) (List.range base.length);have e5:decide ((base.length:Int)<=2000)=decide (base.length<=2000):=by simp only[decide_eq_decide];omega
  cases hx:lC (fun i=>!(HV M base i)) (List.range base.length)with
  |some i=>rw[hx]at hf;simp only at hf;simp only[sM];rw[if_neg (by unfold goodB;rw[<- hf];simp)]
  |none=>rw[hx]at hf;simp only at hf;simp only[fV,bA,aA,cond_true,e5];rw[if_pos (by unfold goodB;exact hf.symm)]
def SqM (M:Mx):Prop:=∀ R∈M,∀ r∈R,r.length=R.length
theorem XZ {os:List aN} {M:Mx} (h:j3 os=some M):SqM M:=by
 unfold j3 at h;split at h
 ·injection h with h;subst h;intro R hR r hr;obtain⟨o,_,rfl⟩:=mem_map.1 hR;unfold mG at hr ⊢;obtain⟨a,_,rfl⟩:=mem_map.1 hr;simp
 ·cases h
def FJ (M:Mx) (a b:List Int) (i:Nat):Bool:=match M[i]?,a[i]?,b[i]? with
 |some R,some x,some y=>((R[x.toNat]?).bind fun r=>r[y.toNat]?).getD false
 |_,_,_=>false
def wV (M:Mx) (a b:List Int):List Int:=((List.range M.length).filter fun i=>!(FJ M a b i)).map fun i:Nat=>(i:Int)
theorem abC {M:Mx} {v:List Int} (h:lV M v=true) {i:Nat} (hi:i < M.length):∃ (x:Nat),v[i]? =some (x:Int)∧x < (M[i]'hi).length:=by
 simp only[lV,and_eq_true,decide_eq_true_eq,all_eq_true,List.mem_range]at h;have h2:=h.2 i hi;have hv:i < v.length:=by omega
 simp only[Wm,List.getElem?_eq_getElem hv,List.getElem?_eq_getElem hi,and_eq_true,decide_eq_true_eq]at h2;exact⟨v[i].toNat,by rw[List.getElem?_eq_getElem hv];congr 1;omega,by omega⟩
theorem NR {n:Nat} {M:Mx} (hq:SqM M) {a b:List Int} (ha:lV M a=true) (hb:lV M b=true) (hn:M.length < n) (hm:M.length<=12):dK n M a b=some (wV M a b):=by
 unfold dK wV;have key:=bS (step:=fA M a b) (fun i=>((i:Int),((List.range i).filter fun i=>!(FJ M a b i)).map fun i:Nat=>(i:Int))) (s:=((0:Int),([]:List Int))) M.length (((List.range M.length).filter fun i=>!(FJ M a b i)).map fun i:Nat=>(i:Int)) (by simp) (fun i hi=>by
  have e:decide ((i:Int) < (M.length:Int))=true:=by simpa using hi
  obtain⟨x,hx1,hx2⟩:=abC ha hi;obtain⟨y,hy1,hy2⟩:=abC hb hi;have hr:(M[i][x]'hx2).length=M[i].length:=hq _ (getElem_mem hi) _ (getElem_mem hx2);have hle:FJ M a b i=(M[i][x]'hx2)[y]'(by rw[hr];exact hy2):=by
   simp only[FJ,List.getElem?_eq_getElem hi,hx1,hy1,Int.toNat_natCast,List.getElem?_eq_getElem hx2,bind_some];rw[List.getElem?_eq_getElem (by rw[hr];exact hy2)];rfl
  have hs1:sub ([(i:Int)]:List Int) 0 1=[(i:Int)]:=rfl;generalize hL:((List.range i).filter fun i=>!(FJ M a b i)).map (fun i:Nat=>(i:Int))=L;have hlen:L.length<=i:=by
   rw[<- hL,length_map];exact Nat.le_trans (length_filter_le _ _) (by simp)
  have hap:bG L.length L.length 1 1 8=true:=bZ (by omega) (by simp only[maxLen];omega);have hN:((List.range (i+1)).filter fun i=>!(FJ M a b i)).map (fun i:Nat=>(i:Int))=L++(if FJ M a b i=true then []else [(i:Int)]):=by
   rw[List.range_succ,filter_append,map_append,hL];cases h:FJ M a b i<;>simp[h]
  rw[hN];simp only[fA,e,cond_true,bC hi,bind_some,JQ,hx1,hy1,List.getElem?_eq_getElem hx2];rw[List.getElem?_eq_getElem (show y < (M[i][x]'hx2).length by rw[hr];exact hy2),<- hle];simp only[bind_some,ay (show i < 9223372036854775807 by omega)];cases FJ M a b i with
  |true=>simp only[Bool.not_true,cond_false,aA,cond_true,bind_some,if_true,append_nil]
  |false=>simp only[Bool.not_false,cond_true,hs1,length_singleton,hap,fe,aA,bind_some];rfl) (by
  have e:decide ((M.length:Int) < (M.length:Int))=false:=by simp
  simp only[fA,e,cond_false,aA,cond_true]) n hn
 have hz:eqL 0 ([]:List Int).length=true:=rfl;simp only[hz,cond_true,key,bind_some,bA,aA]
def NS (M:Mx) (c:aB) (w:List Int):List Int:=bif c.grant then wV M c.values w else wV M w c.values
theorem ZL {n:Nat} {M:Mx} (hq:SqM M) {c:aB} {w:List Int} (ha:lV M c.values=true) (hb:lV M w=true) (hn:M.length < n) (hm:M.length<=12):fB n M c w=some (NS M c w):=by
 unfold fB NS;cases c.grant with
 |true=>simp only[cond_true,NR hq ha hb hn hm,bind_some,bA,aA]
 |false=>simp only[cond_false,NR hq hb ha hn hm,bind_some,bA,aA,cond_true]
def lQ (M:Mx) (w:List Int) (c:aB):Bool:=(NS M c w).isEmpty
theorem ZM (M:Mx) (w:List Int) (c:aB):((((NS M c w).length:Nat):Int)==0)=lQ M w c:=by
 unfold lQ;cases NS M c w with
 |nil=>rfl
 |cons x l=>simp only[length_cons,List.isEmpty_cons];simp;omega
def UI (l:List aB):List (Bool×Bool):=l.foldl (fun m c=>rC bEq c.grant true m) []
theorem ZN (k k' v:Bool):∀ l:List (Bool×Bool),eY bEq k (rC bEq k' v l)=if k=k' then some v else eY bEq k l
 |[]=>by cases k<;>cases k'<;>rfl
 |p::r=>by
  have ih:=ZN k k' v r;obtain⟨p1,p2⟩:=p;by_cases h1:k'=p1
  ·subst h1;by_cases h2:k=k'
   ·simp[rC,eY,bEq,h2]
   ·have h2':(k==k')=false:=(by simpa using h2);simp[rC,eY,bEq,h2,h2']
  ·have h1':(k'==p1)=false:=(by simpa using h1);by_cases h2:k=p1
   ·have h3:¬ p1=k':=fun h=>h1 h.symm;simp[rC,eY,bEq,h1',h2,h3]
   ·have h2':(k==p1)=false:=(by simpa using h2);simp only[rC,bEq,h1',cond_false,eY,h2'];simpa only[bEq]using ih
theorem adS (k:Bool) (l:List aB):(eY bEq k (UI l)).getD false=l.any fun c=>decide (k=c.grant):=by
 have main:∀ (l:List aB) (m:List (Bool×Bool)),(eY bEq k (l.foldl (fun m c=>rC bEq c.grant true m) m)).getD false=((l.any fun c=>decide (k=c.grant)) || (eY bEq k m).getD false):=by
  intro l
  induction l with
  |nil=>intro m;simp
  |cons c l ih=>
   intro m;rw[foldl_cons,ih,ZN,List.any_cons];by_cases h:k=c.grant
   ·simp[h]
   ·rw[if_neg h];simp[h]
 have:=main l [];simpa[UI,eY]using this
def byG (M:Mx) (base:List aB) (w:List Int) (g:Bool):Bool:=base.any fun c=>lQ M w c&&decide (g=c.grant)
def A8 (M:Mx) (base:List aB) (w:List Int):Int:=bif byG M base w true&&byG M base w false then 3 else bif byG M base w true then 1 else bif byG M base w false then 2 else 0
def qX (M:Mx) (base:List aB) (w:List Int) (i:Nat):Bool:=match base[i]? with
 |some c=>lQ M w c
 |none=>false
def Db (M:Mx) (base:List aB) (w:List Int):List Int:=((List.range base.length).filter (qX M base w)).map fun i:Nat=>(i:Int)
theorem PD (M:Mx) (base:List aB) (w:List Int) (g:Bool):((base.filter (lQ M w)).any fun c=>decide (g=c.grant))=byG M base w g:=by rw[List.any_filter];rfl
theorem adT {n:Nat} {M:Mx} (hq:SqM M) {base:List aB} {w:List Int} (hv:∀ c∈base,lV M c.values=true) (hw:lV M w=true) (hn:M.length < n) (hm:M.length<=12) (hb:base.length < n) (hb2:base.length<=2000):
 gU n M base w=some (A8 M base w,Db M base w):=by
 unfold gU;have key:=bS (step:=fC n M base w) (fun i=>((i:Int),UI ((base.take i).filter (lQ M w)),((List.range i).filter (qX M base w)).map fun i:Nat=>(i:Int))) (s:=((0:Int),([]:List (Bool×Bool)),([]:List Int))) base.length (UI (base.filter (lQ M w)),Db M base w) (by simp[UI]) (fun i hi=>by
  have e:decide ((i:Int) < (base.length:Int))=true:=by simpa using hi
  have hs1:sub ([(i:Int)]:List Int) 0 1=[(i:Int)]:=rfl;have hra:qX M base w i=lQ M w base[i]:=by simp[qX,hi]
  generalize hL:((List.range i).filter (qX M base w)).map (fun i:Nat=>(i:Int))=L;have hlen:L.length<=i:=by
   rw[<- hL,length_map];exact Nat.le_trans (length_filter_le _ _) (by simp)
  have hap:bG L.length L.length 1 1 8=true:=bZ (by omega) (by simp only[maxLen];omega);have hN:((List.range (i+1)).filter (qX M base w)).map (fun i:Nat=>(i:Int))=L++(if lQ M w base[i]=true then [(i:Int)]else []):=by
   rw[List.range_succ,filter_append,map_append,hL,<- hra];cases h:qX M base w i<;>simp[h]
  have hB:UI ((base.take (i+1)).filter (lQ M w))=bif lQ M w base[i]then rC bEq base[i].grant true (UI ((base.take i).filter (lQ M w)))else UI ((base.take i).filter (lQ M w)):=by
   rw[take_succ_eq_append_getElem hi,filter_append];cases h:lQ M w base[i]with
   |true=>simp only[UI,List.filter_cons,h,if_true,List.filter_nil,List.foldl_append,foldl_cons,List.foldl_nil,cond_true]
   |false=>simp only[UI,List.filter_cons,h,List.filter_nil,append_nil,cond_false,Bool.false_eq_true,if_false]
  rw[hN,hB];simp only[fC,e,cond_true,bC hi,bind_some,ZL hq (hv _ (getElem_mem hi)) hw hn hm,ZM,ay (show i < 9223372036854775807 by omega)];cases lQ M w base[i]with
  |true=>simp only[cond_true,hs1,length_singleton,hap,fe,aA,bind_some,if_true]
  |false=>simp only[cond_false,aA,cond_true,bind_some,Bool.false_eq_true,if_false,append_nil]) (by
  have e:decide ((base.length:Int) < (base.length:Int))=false:=by simp
  simp only[fC,e,cond_false,aA,cond_true,List.take_length];rfl) n hb
 have hz:eqL 0 ([]:List Int).length=true:=rfl;simp only[hz,cond_true,key,bind_some,adS,PD];unfold A8;cases h1:byG M base w true with
 |true=>
  cases h2:byG M base w false with
  |true=>simp only[cond_true,bind_some,bA,aA,Bool.and_self]
  |false=>simp only[cond_true,bind_some,cond_false,bA,aA,Bool.and_false]
 |false=>
  cases h2:byG M base w false with
  |true=>simp only[cond_true,bind_some,cond_false,bA,aA,Bool.false_and]
  |false=>
   simp only[cond_false,bind_some,Bool.false_and];have:Db M base w=[]:=by
    unfold Db;have:(List.range base.length).filter (qX M base w)=[]:=by
     rw[List.filter_eq_nil_iff];intro i hi hr;rw[List.mem_range]at hi;simp only[qX,List.getElem?_eq_getElem hi]at hr;cases hg:base[i].grant with
     |true=>
      have:byG M base w true=true:=(by unfold byG;rw[any_eq_true];exact⟨_,getElem_mem hi,by simp[hr,hg]⟩);rw[h1]at this;cases this
     |false=>
      have:byG M base w false=true:=(by unfold byG;rw[any_eq_true];exact⟨_,getElem_mem hi,by simp[hr,hg]⟩);rw[h2]at this;cases this
    rw[this];rfl
   rw[this]
theorem yP {M:Mx} {base:List aB} (h:goodB M base=true):∀ c∈base,lV M c.values=true:=by
 intro c hc;obtain⟨i,hi,rfl⟩:=List.mem_iff_getElem.1 hc;simp only[goodB,all_eq_true,List.mem_range]at h;have:=h i hi;simp only[HV,List.getElem?_eq_getElem hi,and_eq_true]at this;exact this.2
theorem J6 {os:List aN} {base:List aB} (h:(dJ os base).2=true):∃ M,dJ os base=(M,true)∧j3 os=some M∧goodB M base=true∧base.length<=2000:=by
 unfold dJ at h ⊢;cases hr:j3 os with
 |none=>rw[hr]at h;cases h
 |some M=>
  rw[hr]at h;simp only at h ⊢;split at h
  ·rename_i h1;rw[if_pos h1];simp only at h;exact⟨M,by rw[h],rfl,h1,of_decide_eq_true h⟩
  ·cases h
noncomputable def bg (os:List aN) (base:List aB) (w:List Int):Int×List Int×Int:=
 bif (dJ os base).2&&lV (dJ os base).1 w then (A8 (dJ os base).1 base w,Db (dJ os base).1 base w,0)else (0,[],1)
theorem acO {n:Nat} (hn:400<=n) {os:List aN} {base:List aB} {w:List Int} (r:Mx×Bool) (hr:r=dJ os base):
 ((bif (!r.2)then some true else bif eqL (sub r.1 0 r.1.length).length r.1.length then (bU n (sub r.1 0 r.1.length) w).bind fun r2=>some (!r2)else none):Option Bool)=some (!((dJ os base).2&&lV (dJ os base).1 w)):=by
 subst hr;cases h:(dJ os base).2 with
 |false=>simp
 |true=>
  obtain⟨M,h1,h2,h3,h4⟩:=J6 h;rw[h1];have:=HY h2;simp only[Bool.not_true,cond_false,bA,aA,cond_true,Pf (n:=n) M w (by omega) (by omega),bind_some,Bool.true_and]
theorem adU {n:Nat} (hn:400<=n) (os:List aN) (base:List aB) (w:List Int) (hb:base.length < n) (hb2:base.length < 9223372036854775807):nE n os base w=some (bg os base w):=by
 unfold nE bg;rw[L9 hn os base hb hb2];simp only[bind_some];rw[acO hn _ rfl];simp only[bind_some];cases h:(dJ os base).2&&lV (dJ os base).1 w with
 |false=>simp
 |true=>
  simp only[and_eq_true]at h;obtain⟨M,h1,h2,h3,h4⟩:=J6 h.1;rw[h1]at h ⊢;have:=HY h2;simp only[Bool.not_true,cond_false,bA,aA,cond_true,adT (XZ h2) (yP h3) h.2 (n:=n) (by omega) (by omega) hb h4,bind_some]
end Go.Proofs
