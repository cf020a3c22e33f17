import Derived.Test.YtbdekfpclohfnaaGreatTD3
open Go.IntKind (i64)
open List (length_take mem_map all_eq_true getElem_mem length_map mem_iff_getElem length_drop length_nil foldl_cons take_of_length_le mem_filter any_eq_true mem_cons_self length_singleton pairwise_cons map_take drop_eq_getElem_cons set_append_right map_drop mem_flatMap map_append pairwise_append getElem_drop drop_of_length_le)
namespace Go.Proofs
open Go.Gb Go.RowKit
variable {n:Nat}
abbrev nr(a b:Int):Bool:=decide (a<b)
theorem VG(a b:Int):cmp_Less_int a b=some (nr a b):=by simp[cmp_Less_int,cmp_isNaN_int]
theorem BZ(a b:Int):cmp_Compare_int a b=some (if a<b then -1 else if b<a then 1 else 0):=by
 by_cases h1:a<b
 ·simp[cmp_Compare_int,cmp_isNaN_int,h1]
 ·by_cases h2:b<a
  ·simp[cmp_Compare_int,cmp_isNaN_int,h1,h2]
  ·simp[cmp_Compare_int,cmp_isNaN_int,h1,h2]
theorem aaw{x:Nat}(k:Nat)(h:2 ^ k<=x):Go.Sort.bitsLen x=Go.Sort.bitsLen (x/2 ^ k)+k:=by
 have key:∀m,Go.Sort.bitsLen x<=m+k↔Go.Sort.bitsLen (x/2 ^ k)<=m:=by
  intro m;rw[Go.Sort.bitsLen_le_iff,Go.Sort.bitsLen_le_iff,Nat.pow_add,Nat.div_lt_iff_lt_mul (Nat.two_pow_pos k)]
 have h1:=(key (Go.Sort.bitsLen (x/2 ^ k))).2 (aT _);have hk:k<=Go.Sort.bitsLen x:=by
  rcases Nat.lt_or_ge (Go.Sort.bitsLen x) k with hlt |hge
  ·have:=(Go.Sort.bitsLen_le_iff x (Go.Sort.bitsLen x)).1 (aT _);have h2:2 ^ Go.Sort.bitsLen x<=2 ^ k:=Nat.pow_le_pow_right (by omega) (by omega);omega
  ·exact hge
 have h2:=(key (Go.Sort.bitsLen x -k)).1 (by omega);omega
theorem apP{v:Nat}(h:v<256):IntKind.u8.wrap (v:Int)=(v:Int):=by
 simp only[IntKind.wrap,IntKind.bits,IntKind.signed,Bool.false_and,Bool.false_eq_true,if_false];omega
set_option maxRecDepth 100000 in
theorem yS{x:Nat}(hx:x<1152921504606846976):bits_Len (x:Int)=some ((Go.Sort.bitsLen x:Nat):Int):=by
 unfold bits_Len bits_Len64;have tab:∀v:Fin 256,A6 (⟨#[0,1,2,2,3,3,3,3,4,4,4,4,4,4,4,4,5,5,5,5,5,5,5,5,5,5,5,5,5,5,5,5,6,6,6,6,6,6,6,6,6,6,6,6,6,6,6,6,6,6,6,6,6,6,6,6,6,6,6,6,6,6,6,6,7,7,7,7,7,7,7,7,7,7,7,7,7,7,7,7,7,7,7,7,7,7,7,7,7,7,7,7,7,7,7,7,7,7,7,7,7,7,7,7,7,7,7,7,7,7,7,7,7,7,7,7,7,7,7,7,7,7,7,7,7,7,7,7,8,8,8,8,8,8,8,8,8,8,8,8,8,8,8,8,8,8,8,8,8,8,8,8,8,8,8,8,8,8,8,8,8,8,8,8,8,8,8,8,8,8,8,8,8,8,8,8,8,8,8,8,8,8,8,8,8,8,8,8,8,8,8,8,8,8,8,8,8,8,8,8,8,8,8,8,8,8,8,8,8,8,8,8,8,8,8,8,8,8,8,8,8,8,8,8,8,8,8,8,8,8,8,8,8,8,8,8,8,8,8,8,8,8,8,8,8,8,8,8,8,8,8,8,8,8,8,8]⟩) (v.val:Int)=some ((Go.Sort.bitsLen v.val:Nat):Int):=by decide +kernel
 have k32:(decide (0<=32)&&decide (32<=IntKind.u64.bits))=true:=rfl;have k16:(decide (0<=16)&&decide (16<=IntKind.u64.bits))=true:=rfl;have k8:(decide (0<=8)&&decide (8<=IntKind.u64.bits))=true:=rfl;have step:∀(x k s:Nat),∃y t:Nat,((bif (decide ((x:Int)>=((2 ^ k:Nat):Int)))then some (((x/2 ^ k:Nat):Int),((s+k:Nat):Int))else some ((x:Int),(s:Int))):Option (Int×Int))=some ((y:Int),(t:Int))/\Go.Sort.bitsLen x+s=Go.Sort.bitsLen y+t/\(y<2 ^ k\/y=x/2 ^ k)/\t<=s+k:=by
  intro x k s;by_cases h:2 ^ k<=x
  ·have c:decide ((x:Int)>=((2 ^ k:Nat):Int))=true:=(by rw[aG];omega);refine⟨x/2 ^ k,s+k,by rw[c];rfl,?_,.inr rfl,aT _⟩;have:=aaw k h;omega
  ·have c:decide ((x:Int)>=((2 ^ k:Nat):Int))=false:=(by rw[dn];omega);exact⟨x,s,by rw[c];rfl,rfl,.inl (by omega),by omega⟩
 have sh:∀(v k:Nat),((v:Int)/2 ^ (k:Int).toNat)=((v/2 ^ k:Nat):Int):=by
  intro v k;rw[Int.toNat_natCast]
  push_cast
  rfl
 have⟨y1,t1,e1,b1,c1,d1⟩:=step x 32 0;have⟨y2,t2,e2,b2,c2,d2⟩:=step y1 16 t1;have⟨y3,t3,e3,b3,c3,d3⟩:=step y2 8 t2;have s1:((bif (decide ((x:Int)>=(4294967296:Int)))then(ck ((decide (0<=32)&&decide (32<=IntKind.u64.bits))) (some (((x:Int)/2 ^ (32:Int).toNat),(32:Int))))else some ((x:Int),(0:Int))):Option (Int×Int))=some ((y1:Int),(t1:Int)):=by
  rw[k32,<- e1];rw[show ((x:Int)/2 ^ (32:Int).toNat)=((x/2 ^ 32:Nat):Int)from sh x 32];rfl
 have s2:((bif (decide ((y1:Int)>=(65536:Int)))then(ck ((decide (0<=16)&&decide (16<=IntKind.u64.bits))) (some (((y1:Int)/2 ^ (16:Int).toNat),(i64.wrap ((t1:Int)+16)))))else some ((y1:Int),(t1:Int))):Option (Int×Int))=some ((y2:Int),(t2:Int)):=by
  rw[k16,<- e2];rw[show ((y1:Int)/2 ^ (16:Int).toNat)=((y1/2 ^ 16:Nat):Int)from sh y1 16,show i64.wrap ((t1:Int)+16)=((t1+16:Nat):Int)from Tv (j:=16) (by omega)];rfl
 have s3:((bif (decide ((y2:Int)>=(256:Int)))then(ck ((decide (0<=8)&&decide (8<=IntKind.u64.bits))) (some (((y2:Int)/2 ^ (8:Int).toNat),(i64.wrap ((t2:Int)+8)))))else some ((y2:Int),(t2:Int))):Option (Int×Int))=some ((y3:Int),(t3:Int)):=by
  rw[k8,<- e3];rw[show ((y2:Int)/2 ^ (8:Int).toNat)=((y2/2 ^ 8:Nat):Int)from sh y2 8,show i64.wrap ((t2:Int)+8)=((t2+8:Nat):Int)from Tv (j:=8) (by omega)];rfl
 have hy:y3<256:=by
  have q1:(2:Nat) ^ 32=4294967296:=rfl;have q2:(2:Nat) ^ 16=65536:=rfl;have q3:(2:Nat) ^ 8=256:=rfl;rw[q1]at c1;rw[q2]at c2;rw[q3]at c3;omega
 simp only[s1,ah,s2,s3];rw[apP hy,show A6 _ (y3:Int)=_ from tab ⟨y3,hy⟩];have hb:Go.Sort.bitsLen y3<=8:=(Go.Sort.bitsLen_le_iff _ _).2 (by simpa using hy);simp only[ah];rw[rq (by omega),Tv (by omega)];congr 2;omega
theorem HJ:AS aY:=by
 intro L h8 hL;have hb:Go.Sort.bitsLen L<=60:=(Go.Sort.bitsLen_le_iff _ _).2 (by omega);have hp:2 ^ Go.Sort.bitsLen L<=2 ^ 60:=Nat.pow_le_pow_right (by omega) hb;unfold aY;rw[oh (by omega),yS hL,ah];have c:(decide ((0:Int)<=((Go.Sort.bitsLen L:Nat):Int))&&decide (((Go.Sort.bitsLen L:Nat):Int)<=(IntKind.u64.bits:Int)))=true:=by
  have:(IntKind.u64.bits:Int)=64:=rfl;rw[this,aD,aG,aG];omega
 rw[c];simp only[ai];rw[Int.toNat_natCast,Int.one_mul,show((2:Int) ^ Go.Sort.bitsLen L)=((2 ^ Go.Sort.bitsLen L:Nat):Int)by push_cast;rfl,oh (by omega)]
theorem HI:YH bg:=by
 intro r hr;have c13:(decide (0<=13)&&decide (13<=IntKind.u64.bits))=true:=rfl;have c7:(decide (0<=7)&&decide (7<=IntKind.u64.bits))=true:=rfl;have c17:(decide (0<=17)&&decide (17<=IntKind.u64.bits))=true:=rfl;have sl:∀(v k:Nat),IntKind.u64.wrap ((v:Int)*2 ^ (k:Int).toNat)=((v*2 ^ k%18446744073709551616:Nat):Int):=by
  intro v k;rw[Int.toNat_natCast,show((v:Int)*2 ^ k)=((v*2 ^ k:Nat):Int)by push_cast;rfl];simp only[IntKind.wrap,IntKind.bits,IntKind.signed,Bool.false_and,Bool.false_eq_true,if_false];omega
 have sr:∀(v k:Nat),((v:Int)/2 ^ (k:Int).toNat)=((v/2 ^ k:Nat):Int):=by
  intro v k;rw[Int.toNat_natCast];push_cast;rfl
 have ha:r ^^^ (r*2 ^ 13%18446744073709551616)<18446744073709551616:=Nat.xor_lt_two_pow (n:=64) (by omega) (by omega);have hb:(r ^^^ (r*2 ^ 13%18446744073709551616)) ^^^ ((r ^^^ (r*2 ^ 13%18446744073709551616))/2 ^ 7)<18446744073709551616:=Nat.xor_lt_two_pow (n:=64) (by omega) (by omega);unfold bg;rw[c13,c7,c17];simp only[ai];rw[show IntKind.u64.wrap ((r:Int)*2 ^ (13:Int).toNat)=((r*2 ^ 13%18446744073709551616:Nat):Int)from sl r 13,YG hr (by omega)];rw[show (((r ^^^ (r*2 ^ 13%18446744073709551616):Nat):Int)/2 ^ (7:Int).toNat)=_ from sr _ 7,YG ha (by omega)];rw[show IntKind.u64.wrap (((((r ^^^ (r*2 ^ 13%18446744073709551616)) ^^^ ((r ^^^ (r*2 ^ 13%18446744073709551616))/2 ^ 7):Nat)):Int)*2 ^ (17:Int).toNat)=_ from sl _ 17,YG hb (by omega)];rfl
theorem WU:Go.Sort.SWO nr where
 irrefl x:=by simp[nr]
 trans x y z h1 h2:=by simp only[nr,aG]at *;omega
 ntrans x y z h1 h2:=by simp only[nr,dn]at *;omega
theorem acj:∀{l m:List Int},l.Perm m->l.Pairwise (λ x y=>nr y x=false)->m.Pairwise (λ x y=>nr y x=false)->l=m
 |[],m,h,_,_=>(List.nil_perm.1 h).symm
 |x::l,[],h,_,_=>by have:=h.length_eq;simp at this
 |x::l,y::m,h,h1,h2=>by
  have e:x=y:=by
   rw[pairwise_cons]at h1 h2;have m1:x∈y::m:=h.mem_iff.1 mem_cons_self;have m2:y∈x::l:=h.mem_iff.2 mem_cons_self;rcases aK.1 m1 with e |m1
   ·exact e
   ·rcases aK.1 m2 with e |m2
    ·exact e.symm
    ·have a:=h1.1 y m2;have b:=h2.1 x m1;simp only[nr,dn]at a b;omega
  subst e;rw[pairwise_cons]at h1 h2;rw[acj (List.Perm.cons_inv h) h1.2 h2.2]
theorem LV{α:Type}(lt:α->α->Bool)(x:α):∀ys:List α,(iR lt x ys).Perm (x::ys)
 |[]=>List.Perm.refl _
 |y::ys=>by
  simp only[iR];cases lt x y with
  |true=>exact((LV lt x ys).cons y).trans (List.Perm.swap x y ys)
  |false=>exact List.Perm.refl _
theorem O7{α:Type}(lt:α->α->Bool)(l:List α):(mH lt l).Perm l:=by
 have gen:∀(xs rs:List α),(xs.foldl (λ rs x=>iR lt x rs) rs).Perm (xs++rs):=by
  intro xs
  induction xs with
  |nil=>intro rs;exact List.Perm.refl _
  |cons x xs ih=>
   intro rs;refine(ih _).trans ?_;refine((LV lt x rs).append_left xs).trans ?_;exact List.perm_middle
 unfold mH;exact(List.reverse_perm _).trans (by simpa using gen l [])
theorem d7{α:Type}{lt:α->α->Bool}(hS:Go.Sort.SWO lt)(x:α):∀ys:List α,ys.Pairwise (λ a b=>lt a b=false)->(iR lt x ys).Pairwise λa b=>lt a b=false
 |[],_=>by simp[iR]
 |y::ys,h=>by
  have h':=pairwise_cons.1 h;simp only[iR];cases hxy:lt x y with
  |true=>
   rw[ai,pairwise_cons];refine⟨λ z hz=>?_,d7 hS x ys h'.2⟩;rcases aK.1 ((LV lt x ys).mem_iff.1 hz)with rfl |hz
   ·cases hyx:lt y z with
    |false=>rfl
    |true=>have:=hS.trans _ _ _ hxy hyx;rw[hS.irrefl]at this;cases this
   ·exact h'.1 z hz
  |false=>
   rw[ak,pairwise_cons];refine⟨λ z hz=>?_,h⟩;rcases aK.1 hz with rfl |hz
   ·exact hxy
   ·exact hS.ntrans _ _ _ hxy (h'.1 z hz)
theorem ff{α:Type}{lt:α->α->Bool}(hS:Go.Sort.SWO lt)(l:List α):(mH lt l).Pairwise λx y=>lt y x=false:=by
 have gen:∀(xs rs:List α),rs.Pairwise (λ a b=>lt a b=false)->(xs.foldl (λ rs x=>iR lt x rs) rs).Pairwise λa b=>lt a b=false:=by
  intro xs
  induction xs with
  |nil=>intro rs h;exact h
  |cons x xs ih=>intro rs h;exact ih _ (d7 hS x rs h)
 unfold mH;rw[List.pairwise_reverse];exact gen l [] List.Pairwise.nil
theorem ak4(l:List Int):wz nr l=mH nr l:=
 acj ((BF WU l).trans (O7 nr l).symm) (II WU l) (ff WU l)
theorem afT(n:Nat):∀m,gV n m=fT cmp_Less_int (λ r=>r) aY bg n m
 | 0=>rfl
 |m+1=>by
  show mI n (gV n m)=jc cmp_Less_int (λ r=>r) aY bg n (fT cmp_Less_int (λ r=>r) aY bg n m);rw[afT n m];generalize fT cmp_Less_int (λ r=>r) aY bg n m=rc
  kernel_rfl
theorem Ca{l:List Int}(hl:l.length<1099511627776)(hn:l.length<n):tV n l=some (mH nr l):=by
 unfold tV oD;rw[oh (by omega),yS (by omega),afT];simp only[ah,aB,ai];rw[uI (lt:=nr) WU (f:=nr) (q:=λr=>r) VG (λ _ _=>rfl) HJ HI (by omega) hn hn,ak4];rfl
theorem Ey{l:List Int}(hl:l.length<1099511627776)(hn:l.length<n):uO n l=some ((),gP l):=by
 rw[<- afQ];exact Oa (eq:=λx y=>x==y) (ne:=λx y=>x !=y) (λ x y=>by simp[bne]) hl hn
theorem TB{l:List ay}(h:l.length<1099511627776):Fa l=some l:=yB (b:=32) (by omega) (by simp only[maxLen];omega)
theorem zB{l:List Int}(h:l.length<1099511627776):nC l=some l:=yB (b:=8) (by omega) (by simp only[maxLen];omega)
theorem Q9{l:List (List ay)}(hf:l.flatten.length<1099511627776)(hl:l.length<1099511627776)(hn:l.length<n):BH n l=some l.flatten:=adB (ay.mk 0 0 0 0) (b:=32) hf (by omega) hl hn
theorem TD{a b:List ay}(hl:a.length<1099511627776)(hn:a.length<n):rF n a b=some (decide (a=b)):=by
 have e:rF n a b=WA n (λ x1 x2:ay=>!((x1.x0==(x2.x0:Int))&&((x1.y0==(x2.y0:Int))&&((x1.x1==(x2.x1:Int))&&((x1.y1==(x2.y1:Int))&&true))))) a b:=by kernel_rfl
 rw[e];refine U7 (λ x y=>?_) hl hn;obtain⟨a,b,c,d⟩:=x;obtain⟨e,f,g,h⟩:=y;simp only[ay.mk.injEq,Bool.and_true];rw[eu];simp
theorem GJ{a b:List aJ}(hl:a.length<1099511627776)(hn:a.length<n):xP n a b=some (decide (a=b)):=by
 have e:xP n a b=WA n (λ x1 x2:aJ=>!((x1.from_==(x2.from_:Int))&&((x1.to==(x2.to:Int))&&true))) a b:=by kernel_rfl
 rw[e];refine U7 (λ x y=>?_) hl hn;obtain⟨a,b⟩:=x;obtain⟨c,d⟩:=y;simp only[aJ.mk.injEq,Bool.and_true];rw[eu];simp
abbrev js(a b:aJ):Bool:=decide (a.from_<b.from_)
theorem Ra:Go.Sort.SWO js where
 irrefl x:=by simp[js]
 trans x y z h1 h2:=by simp only[js,aG]at *;omega
 ntrans x y z h1 h2:=by simp only[js,dn]at *;omega
instance:Inhabited aJ:=⟨⟨0,0⟩⟩
theorem ak5(n:Nat)(rc:List aJ->Int->Int->Int->((aJ×aJ×Unit)->Option Int)->Option (List aJ))(φ:(aJ×aJ×Unit)->Option Int)(l:List aJ)(a b d:Int):jg n rc l a b d φ=jc (λ x y=>φ (x,y,())) (λ r=>decide (r<0)) aY bg n (λ l a b d=>rc l a b d φ) l a b d:=by kernel_rfl
theorem ack(n:Nat)(φ:(aJ×aJ×Unit)->Option Int):∀m l a b d,eT n m l a b d φ=fT (λ x y=>φ (x,y,())) (λ r=>decide (r<0)) aY bg n m l a b d
 | 0,l,a,b,d=>rfl
 |m+1,l,a,b,d=>by
  have e:(λ l a b d=>eT n m l a b d φ)=fT (λ x y=>φ (x,y,())) (λ r=>decide (r<0)) aY bg n m:=by
   funext l a b d;exact ack n φ m l a b d
  show jg n (eT n m) l a b d φ=jc (λ x y=>φ (x,y,())) (λ r=>decide (r<0)) aY bg n (fT (λ x y=>φ (x,y,())) (λ r=>decide (r<0)) aY bg n m) l a b d;rw[<- e];exact ak5 n (eT n m) φ l a b d
theorem Nr{l:List aJ}{φ:(aJ×aJ×Unit)->Option Int}(f:aJ->aJ->Int)(hφ:∀x y,φ (x,y,())=some (f x y))(hf:∀x y,decide (f x y<0)=js x y)(hl:l.length<1099511627776)(hn:l.length<n):p9 n l φ=some (wz js l):=by
 unfold p9 nD;rw[oh (by omega),yS (by omega)];simp only[ah,aB,ai,ack];rw[uI (lt:=js) Ra (f:=f) (q:=λr=>decide (r<0)) hφ hf HJ HI (by omega) hn hn];rfl
def jn(aa:List aJ)(s:aJ):List aJ:=
 match aa.getLast? with
 |some q=>bif decide (s.from_<=q.to)then aa.dropLast++[⟨q.from_,max q.to s.to⟩]else aa++[s]
 |none=>[s]
theorem O8(aa:List aJ)(s:aJ):(jn aa s).length<=aa.length+1:=by
 unfold jn;cases aa.getLast? with
 |none=>simp
 |some q=>simp only;cases decide (s.from_<=q.to)<;>simp<;>omega
theorem ah9(o:List aJ)(q s:aJ):jn (o++[q]) s=bif decide (s.from_<=q.to)then o++[⟨q.from_,max q.to s.to⟩]else o++[q]++[s]:=by simp[jn]
abbrev sT(s:aJ):Prop:=s.from_<s.to
def ej(l:List aJ)(y:Int):Bool:=l.any λs=>decide (s.from_<=y)&&decide (y<s.to)
def Can(l:List aJ):Prop:=l.Pairwise (λ a b=>a.to<b.from_)/\∀s∈l,sT s
theorem Ap(l:List aJ)(y:Int):ej l y=true↔∃s∈l,s.from_<=y/\y<s.to:=by simp[ej]
theorem pI(l m:List aJ)(y:Int):ej (l++m) y=(ej l y || ej m y):=by simp[ej]
theorem Aq(y:Int):ej [] y=false:=rfl
theorem lD(s:aJ)(l:List aJ)(y:Int):ej (s::l) y=((decide (s.from_<=y)&&decide (y<s.to)) || ej l y):=by simp[ej]
theorem afU{l m:List aJ}(h:l.Perm m)(y:Int):ej l y=ej m y:=by
 rw[eu,Ap,Ap];exact⟨λ ⟨s,hs,h1⟩=>⟨s,h.mem_iff.1 hs,h1⟩,λ⟨s,hs,h1⟩=>⟨s,h.mem_iff.2 hs,h1⟩⟩
theorem WV:Can []:=⟨List.Pairwise.nil,by simp⟩
theorem anf{aa:List aJ}{s:aJ}(hc:Can aa)(hs:sT s)(hb:∀o∈aa,o.from_<=s.from_):
 Can (jn aa s)/\(∀ o∈jn aa s,o.from_<=s.from_)/\∀y,ej (jn aa s) y=(ej aa y || ej [s] y):=by
 rcases List.eq_nil_or_concat aa with rfl |⟨o,q,rfl⟩
 ·refine⟨⟨by simp[jn],by simp[jn];exact hs⟩,by simp[jn],λy=>by simp[jn,ej]⟩
 ·rw[List.concat_eq_append]at*;obtain⟨h1,h2⟩:=hc;rw[pairwise_append]at h1;obtain⟨p1,_,p3⟩:=h1;have hq:sT q:=h2 q (by simp);have hqs:q.from_<=s.from_:=hb q (by simp);rw[ah9];by_cases hj:s.from_<=q.to
  ·simp only[hj,decide_true,ai];refine⟨⟨?_,?_⟩,?_,?_⟩
   ·rw[pairwise_append];refine⟨p1,by simp,λa ha b hb'=>?_⟩;rw[aW]at hb';subst hb';exact p3 a ha q (by simp)
   ·intro a ha;rcases bf.1 ha with ha |ha
    ·exact h2 a (by simp[ha])
    ·rw[aW]at ha;subst ha;show q.from_<max q.to s.to;have:q.from_<q.to:=hq;omega
   ·intro a ha;rcases bf.1 ha with ha |ha
    ·exact hb a (by simp[ha])
    ·rw[aW]at ha;subst ha;exact hqs
   ·intro y;rw[pI,pI,Bool.or_assoc];congr 1;simp only[lD,Aq,Bool.or_false];rw[eu];simp only[aD,Bool.or_eq_true,aG];have:q.from_<q.to:=hq;have:s.from_<s.to:=hs;omega
  ·simp only[hj,decide_false,ak];refine⟨⟨?_,?_⟩,?_,?_⟩
   ·rw[pairwise_append];refine⟨?_,by simp,λa ha b hb'=>?_⟩
    ·rw[pairwise_append];exact⟨p1,by simp,p3⟩
    ·rw[aW]at hb';subst hb';rcases bf.1 ha with ha |ha
     ·have:=p3 a ha q (by simp);have:q.from_<q.to:=hq;omega
     ·rw[aW]at ha;subst ha;omega
   ·intro a ha;rcases bf.1 ha with ha |ha
    ·exact h2 a ha
    ·rw[aW]at ha;subst ha;exact hs
   ·intro a ha;rcases bf.1 ha with ha |ha
    ·exact hb a ha
    ·rw[aW]at ha;subst ha;exact Int.le_refl _
   ·intro y;rw[pI]
theorem TF:∀(l aa:List aJ),Can aa->(∀ s∈l,sT s)->l.Pairwise (λ x y=>x.from_<=y.from_)->(∀ o∈aa,∀s∈l,o.from_<=s.from_)->Can (l.foldl jn aa)/\∀y,ej (l.foldl jn aa) y=(ej aa y || ej l y)
 |[],aa,hc,_,_,_=>⟨hc,λy=>by simp[Aq]⟩
 |s::l,aa,hc,hv,hp,hb=>by
  rw[pairwise_cons]at hp;obtain⟨m1,m2,m3⟩:=anf hc (hv s (by simp)) (λ o ho=>hb o ho s (by simp));obtain⟨f1,f2⟩:=TF l (jn aa s) m1 (λ t ht=>hv t (by simp[ht])) hp.2 (λ o ho t ht=>Int.le_trans (m2 o ho) (hp.1 t ht));refine⟨f1,λy=>?_⟩;rw[foldl_cons,f2,m3,Bool.or_assoc,<- pI];rfl
theorem Rb{a:aJ}{l:List aJ}(h:Can (a::l)):Can l:=⟨(pairwise_cons.1 h.1).2,λs hs=>h.2 s (by simp[hs])⟩
theorem M8{a:aJ}{l:List aJ}(h:Can (a::l)){y:Int}(hy:ej l y=true):a.to<y:=by
 obtain⟨s,hs,h1,_⟩:=(Ap _ _).1 hy;have:=(pairwise_cons.1 h.1).1 s hs;omega
theorem acn{a:aJ}{l:List aJ}(h:Can (a::l)){y:Int}(hy:ej (a::l) y=true):a.from_<=y:=by
 rw[lD,Bool.or_eq_true]at hy;rcases hy with hy |hy
 ·simp only[aD,aG]at hy;exact hy.1
 ·have:=M8 h hy;have:a.from_<a.to:=h.2 a (by simp);omega
theorem Jf:∀{l m:List aJ},Can l->Can m->(∀ y,ej l y=ej m y)->l=m
 |[],[],_,_,_=>rfl
 |[],b::m,_,hm,h=>by
  have:=h b.from_;have hb:b.from_<b.to:=hm.2 b (by simp);rw[Aq,lD]at this;simp[hb]at this
 |a::l,[],hl,_,h=>by
  have:=h a.from_;have ha:a.from_<a.to:=hl.2 a (by simp);rw[Aq,lD]at this;simp[ha]at this
 |a::l,b::m,hl,hm,h=>by
  have ha:a.from_<a.to:=hl.2 a (by simp);have hb:b.from_<b.to:=hm.2 b (by simp);have ina:ej (a::l) a.from_=true:=by rw[lD];simp[ha]
  have I3:ej (b::m) b.from_=true:=by rw[lD];simp[hb]
  have e1:a.from_=b.from_:=by
   have h1:=acn hm (by rw[<- h];exact ina);have h2:=acn hl (by rw[h];exact I3);omega
  have nl:∀(c:aJ)(k:List aJ),Can (c::k)->ej (c::k) c.to=false:=by
   intro c k hk;cases hc:ej (c::k) c.to with
   |false=>rfl
   |true=>
    rw[lD,Bool.or_eq_true]at hc;rcases hc with hc |hc
    ·simp at hc
    ·have:=M8 hk hc;omega
  have e2:a.to=b.to:=by
   rcases Int.lt_trichotomy a.to b.to with hlt |he |hlt
   ·have h1:=nl a l hl;rw[h,lD]at h1;simp only[Bool.or_eq_false_iff,Bool.and_eq_false_iff,dn]at h1;omega
   ·exact he
   ·have h1:=nl b m hm;rw[<- h,lD]at h1;simp only[Bool.or_eq_false_iff,Bool.and_eq_false_iff,dn]at h1;omega
  have e:a=b:=by cases a;cases b;simp only at e1 e2;rw[e1,e2]
  subst e;rw[Jf (Rb hl) (Rb hm) λy=>?_];have hy:=h y;rw[lD,lD]at hy;cases h1:ej l y with
  |true=>
   have:=M8 hl h1;have z:(decide (a.from_<=y)&&decide (y<a.to))=false:=(by rw[Bool.and_eq_false_iff,dn,dn];omega);rw[z,h1,Bool.false_or,Bool.false_or]at hy;rw[<- hy]
  |false=>
   cases h2:ej m y with
   |false=>rfl
   |true=>
    have:=M8 hm h2;have z:(decide (a.from_<=y)&&decide (y<a.to))=false:=(by rw[Bool.and_eq_false_iff,dn,dn];omega);rw[z,h1,h2]at hy;simp at hy
def uu(l:List aJ):List aJ:=(mH js l).foldl jn []
theorem VV{l:List aJ}(h:l.Pairwise λx y=>js y x=false):l.Pairwise λx y=>x.from_<=y.from_:=
 h.imp λ{x y} hxy=>by simp only[js,dn]at hxy;omega
theorem aco{l:List aJ}(h:∀s∈l,sT s):Can (uu l)/\∀y,ej (uu l) y=ej l y:=by
 have hp:=O7 js l;obtain⟨h1,h2⟩:=TF (mH js l) [] WV (λ s hs=>h s (hp.mem_iff.1 hs)) (VV (ff Ra l)) (by simp);exact⟨h1,λy=>by rw[uu,h2,Aq,Bool.false_or,afU hp]⟩
theorem ak6{l:List aJ}(h:∀s∈l,sT s):(wz js l).foldl jn []=uu l:=by
 have hp:=BF Ra l;obtain⟨h1,h2⟩:=TF (wz js l) [] WV (λ s hs=>h s (hp.mem_iff.1 hs)) (VV (II Ra l)) (by simp);have⟨h3,h4⟩:=aco h;exact Jf h1 h3 λy=>by rw[h2,Aq,Bool.false_or,afU hp,h4]
theorem afW(l:List aJ):(uu l).length<=l.length:=by
 have:∀(ys aa:List aJ),(ys.foldl jn aa).length<=aa.length+ys.length:=by
  intro ys
  induction ys with
  |nil=>intro aa;simp
  |cons y ys ih=>
   intro aa;simp only[foldl_cons,bH];have:=ih (jn aa y);have:=O8 aa y;omega
 have h:=this (mH js l) [];rw[gB]at h;simpa[uu]using h
abbrev cL(r:ay):Bool:=decide (0<=r.x0)&&(decide (r.x0<r.x1)&&(decide (r.x1<=1048576)&&(decide (0<=r.y0)&&(decide (r.y0<r.y1)&&decide (r.y1<=1048576)))))
theorem TG(a b:Bool):(bif a then some b else some false)=some (a&&b):=by cases a<;>rfl
theorem apQ(a b:Bool):(bif a then some true else some b)=some (a || b):=by cases a<;>rfl
theorem nN(r:ay):uN r=some (cL r):=by simp only[uN,TG]
def fA(l:List ay)(x:Int):List aJ:=(l.filter λr=>decide (r.x0<=x)&&decide (x<r.x1)).map λr=>⟨r.y0,r.y1⟩
def bR(l:List ay)(x:Int):List aJ:=uu (fA l x)
theorem Cb(l:List ay)(x:Int):(fA l x).length<=l.length:=by simp only[fA,length_map];exact List.length_filter_le _ _
theorem pJ(l:List ay)(x:Int):(bR l x).length<=l.length:=
 Nat.le_trans (afW _) (Cb l x)
theorem aqA{r:ay}(h:cL r=true):r.y0<r.y1:=by simp only[cL,aD,aG]at h;omega
theorem YP{l:List ay}(h:∀r∈l,cL r=true)(x:Int):∀s∈fA l x,sT s:=by
 intro s hs;simp only[fA,mem_map,mem_filter]at hs;obtain⟨r,⟨hr,_⟩,rfl⟩:=hs;exact aqA (h r hr)
theorem TH{l:List ay}{x:Int}(hl:l.length<1099511627776){n:Nat}(hn:l.length<n):iter (uP l x) n ((0:Int),([]:List aJ))=some (fA l x):=by
 have:=j6 (l:=l) (step:=uP l x) (λ i (s:List aJ)=>((i:Int),s)) (λ r s=>bif decide (r.x0<=x)&&decide (x<r.x1)then s++[⟨r.y0,r.y1⟩]else s) (λ s=>s) (λ i s=>s.length<=i)
  (λ i hi s hs=>?_) (λ s hs=>by simp[uP]) n hn [] (aT _)
 ·rw[show ((0:Nat):Int)=0 from rfl]at this;rw[this];congr 1;have gen:∀(ys:List ay)(s:List aJ),ys.foldl (λ s r=>bif decide (r.x0<=x)&&decide (x<r.x1)then s++[⟨r.y0,r.y1⟩]else s) s=s++fA ys x:=by
   intro ys
   induction ys with
   |nil=>intro s;simp[fA]
   |cons y ys ih=>
    intro s;simp only[foldl_cons,ih];cases h:(decide (y.x0<=x)&&decide (x<y.x1))with
    |true=>simp[fA,h]
    |false=>simp[fA,h]
  simpa using gen l []
 ·have hi':decide ((i:Int)<(l.length:Int))=true:=by simpa using hi
  have ap:bD s.length s.length (sub ([(aJ.mk l[i].y0 l[i].y1)]:List aJ) 0 1).length 1 16=true:=bB (n:=1);simp only[uP,hi',ai,aZ hi,ah,TG];cases h:(decide (l[i].x0<=x)&&decide (x<l[i].x1))with
  |true=>
   simp only[ai,ap,dH,aB,ah];refine⟨?_,by simp;omega⟩;rw[aO (by omega)];rfl
  |false=>
   simp only[ak,aB,ai,ah];exact⟨by rw[aO (by omega)],by omega⟩
theorem TI(w1 r2:List aJ)(hw:w1.length=r2.length)(hl:r2.length<1099511627776)(hn:r2.length<n):iter (uQ w1 r2) n ((0:Int),([]:List aJ))=some (r2.foldl jn []):=by
 have:=j6 (l:=r2) (step:=uQ w1 r2) (λ i (s:List aJ)=>((i:Int),s)) (λ r s=>jn s r) (λ s=>s) (λ i s=>s.length<=i)
  (λ i hi s hs=>?_) (λ s hs=>by simp[uQ,hw]) n hn [] (aT _)
 ·rw[show ((0:Nat):Int)=0 from rfl]at this;exact this
 ·refine⟨?_,by have:=O8 s r2[i];omega⟩;have hi':decide ((i:Int)<(w1.length:Int))=true:=by simp;omega
  have ib:br (i:Int) w1.length=true:=bS (by omega);have ap:bD s.length s.length (sub ([r2[i]]:List aJ) 0 1).length 1 16=true:=bB (n:=1);simp only[uQ,hi',ai,ib,eY hi,ah];rcases List.eq_nil_or_concat s with rfl |⟨s0,q,CM⟩
  ·have d0:decide (((([]:List aJ).length:Nat):Int)>0)=false:=(by simp);simp only[d0,ak,ah,ap,ai,dH,aB];rw[aO (by omega)];rfl
  ·rw[List.concat_eq_append]at CM;subst CM;have d0:decide (((((s0++[q]).length:Nat):Int))>0)=true:=(by simp<;>omega);have tf:(s0++[q]).length=s0.length+1:=(by simp);have wp:i64.wrap ((((s0++[q]).length:Nat):Int) -1)=(s0.length:Int):=(by rw[iJ (by simp) (by omega),tf];rfl);have vp:br (s0.length:Int) (s0++[q]).length=true:=bS (by omega);have g:bh (s0++[q]) (((0:Nat):Int)+(s0.length:Int))=some q:=(by rw[iT];simp);have z:(((0:Nat):Int)+(s0.length:Int)).toNat=s0.length:=(by simp);have st:(s0++[q]).set s0.length (aJ.mk q.from_ (max q.to r2[i].to))=s0++[⟨q.from_,max q.to r2[i].to⟩]:=(by simp);have m:jn (s0++[q]) r2[i]=bif decide (r2[i].from_<=q.to)then s0++[⟨q.from_,max q.to r2[i].to⟩]else s0++[q]++[r2[i]]:=(by simp[jn]);simp only[d0,ai,wp,vp,g,ah,m,z,st];cases decide (r2[i].from_<=q.to)with
   |true=>
    have e:bb (s0++[q]).length (s0++[(⟨q.from_,max q.to r2[i].to⟩:aJ)]).length=true:=(by simp);simp only[ai,e,ah,aB];rw[aO (by omega)]
   |false=>
    simp only[ak,ap,ai,dH,aB,ah];rw[aO (by omega)];rfl
theorem adN{l:List ay}{x:Int}(hv:∀r∈l,cL r=true)(hl:l.length<1099511627776)(hn:l.length<n):MX n l x=some (bR l x):=by
 have h1:=Cb l x;have h2:(wz js (fA l x)).length=(fA l x).length:=IJ Ra _;unfold MX;simp only[length_nil,aB,ai,TH (x:=x) (l:=l) (by omega) (n:=n) (by omega),ah];rw[Nr (λ a b=>if a.from_<b.from_ then -1 else if b.from_<a.from_ then 1 else 0) (λ a b=>by show Ai a b=_;unfold Ai;rw[BZ];rfl) (λ a b=>by
  by_cases h1:a.from_<b.from_
  ·simp[h1]
  ·by_cases h2:b.from_<a.from_<;>simp[h1,h2]) (by omega) (by omega)]
 simp only[ah];rw[TI _ _ h2.symm (by omega) (by omega)];simp only[ah,bG,aB,ai];rw[ak6 (YP hv x)];rfl
def bP(l:List ay):List Int:=uF (l.flatMap λr=>[r.x0,r.x1])
def iq{α:Type}(f:Int->Int->α):List Int->List α
 |a::b::l=>f a b::iq f (b::l)
 |_=>[]
def dh(l:List ay):List bF:=iq (λ a b=>⟨a,b,bR l a⟩) (bP l)
theorem pK{α:Type}(f:Int->Int->α):∀(l:List Int),(iq f l).length=l.length -1/\∀i (h:i+1<l.length) (h':i<(iq f l).length),(iq f l)[i]=f l[i] l[i+1]
 |[]=>⟨rfl,λi h=>by simp at h⟩
 |[a]=>⟨rfl,λi h=>by simp at h⟩
 |a::b::l=>by
  have⟨h1,h2⟩:=pK f (b::l);refine⟨by simp only[iq,bH,h1];simp,λi h h'=>?_⟩;cases i with
  |zero=>rfl
  |succ i=>
   simp only[iq,List.getElem_cons_succ];exact h2 i (by simpa using h) _
theorem mR(l:List ay):(l.flatMap λr=>[r.x0,r.x1]).length=2*l.length:=by
 induction l with
 |nil=>rfl
 |cons x l ih=>simp only[List.flatMap_cons,bW,ih,bH,length_nil];omega
theorem nX(l:List Int):(gP l).length<=l.length:=by
 match l with
 |[]=>simp[gP]
 |[x]=>simp[gP]
 |x::y::l=>
  have:=nX (y::l);simp only[gP];cases x==y<;>simp at* <;>omega
theorem l7(l:List ay):(bP l).length<=2*l.length:=by
 have h:=nX (mH (λ a b=>decide (a<b)) (l.flatMap λr=>[r.x0,r.x1]));rw[gB,mR]at h;exact h
theorem TJ{l:List ay}(hl:l.length<10995116277)(hn:l.length<n):iter (uR l) n ((0:Int),([]:List Int))=some (l.flatMap λr=>[r.x0,r.x1]):=by
 have:=j6 (l:=l) (step:=uR l) (λ i (s:List Int)=>((i:Int),s)) (λ r s=>s++[r.x0,r.x1]) (λ s=>s) (λ i s=>s.length<=2*i)
  (λ i hi s hs=>?_) (λ s hs=>by simp[uR]) n hn [] (aT _)
 ·rw[show ((0:Nat):Int)=0 from rfl]at this;rw[this];have gen:∀(ys:List ay)(s:List Int),ys.foldl (λ s r=>s++[r.x0,r.x1]) s=s++ys.flatMap λr=>[r.x0,r.x1]:=by
   intro ys
   induction ys with
   |nil=>intro s;simp
   |cons y ys ih=>intro s;simp[ih]
  congr 1;simpa using gen l []
 ·have hi':decide ((i:Int)<(l.length:Int))=true:=by simpa using hi
  have ap:bD s.length s.length (sub ([l[i].x0,l[i].x1]:List Int) 0 2).length 2 8=true:=bB (n:=2);simp only[uR,hi',ai,bS hi,eY hi,ah,ap,dH,aB];refine⟨?_,by simp;omega⟩;rw[aO (by omega)];rfl
theorem adO{ls:List (List ay)}(hv:∀r∈ls.flatten,cL r=true)(hl:ls.flatten.length<10995116277)(hls:ls.length<1099511627776)(hn:2*ls.flatten.length<n)(hn2:ls.length<n):MZ n ls=some (dh ls.flatten):=by
 unfold MZ;rw[Q9 (by omega) hls hn2];generalize ls.flatten=l at*;have he:=l7 l;simp only[ah,length_nil,aB,ai,TJ (l:=l) (n:=n) (by omega) (by omega)];rw[Ca (by rw[mR];omega) (by rw[mR];omega)];simp only[ah,gB,aB,ai];rw[Ey (by rw[gB,mR];omega) (by rw[gB,mR];omega)];simp only[ah];have hE:gP (mH nr (l.flatMap λr=>[r.x0,r.x1]))=bP l:=rfl;rw[hE];obtain⟨p1,p2⟩:=pK (λ a b=>(⟨a,b,bR l a⟩:bF)) (bP l);have key:iter (uS n l ((),bP l)) n ((1:Int),([]:List bF))=some (dh l):=by
  have:=jK (step:=uS n l ((),bP l)) (λ i=>(((i+1:Nat):Int),(dh l).take i)) (dh l).length (dh l) (λ i hi=>?_) ?_ n (by unfold dh;omega)
  ·simpa using this
  ·have hi2:i+1<(bP l).length:=(by unfold dh at hi;omega);have d:decide (((i+1:Nat):Int)<(((bP l).length:Nat):Int))=true:=(by simp;omega);have wp:i64.wrap (((i+1:Nat):Int) -1)=(i:Int):=(by rw[iJ (by omega) (by omega)];rfl);have ap:bD ((dh l).take i).length ((dh l).take i).length (sub ([(bF.mk ((bP l)[i]'(by omega)) (bP l)[i+1] (bR l ((bP l)[i]'(by omega))))]:List bF) 0 1).length 1 40=true:=by
    refine bB (n:=1) ?_ ?_
    ·rw[length_take];unfold dh;omega
    ·rw[length_take];unfold dh;simp only[maxLen];omega
   have tk:(dh l).take (i+1)=(dh l).take i++[⟨(bP l)[i]'(by omega),(bP l)[i+1],bR l ((bP l)[i]'(by omega))⟩]:=by
    rw[dG hi];congr 2;exact p2 i hi2 hi
   simp only[uS,d,ai,wp,bS (show i<(bP l).length by omega),eY (show i<(bP l).length by omega),ah,bS hi2,eY hi2,bG,aB,adN (l:=l) (n:=n) hv (by omega) (by omega),ap,dH];rw[aO (by omega),tk];rfl
  ·have d:decide ((((dh l).length+1:Nat):Int)<(((bP l).length:Nat):Int))=false:=(by unfold dh;simp;omega);simp only[uS,d,ak,List.take_length,aB,ai]
 rw[key];simp only[ah,bG,aB,ai]
def bU(x0 x1:Int)(c:List aJ):List ay:=c.map λq=>⟨x0,q.from_,x1,q.to⟩
def Jg(x0 x1:Int)(c:List aJ):List bF->List ay
 |[]=>bU x0 x1 c
 |s::l=>if s.column=c then Jg x0 s.x1 c l else bU x0 x1 c++Jg s.x0 s.x1 s.column l
def fI:List bF->List ay
 |[]=>[]
 |s::l=>Jg s.x0 s.x1 s.column l
theorem acp(x0:Int)(c:List aJ):∀(l:List bF)(x1:Int)(k:Nat)(hk:k<=l.length),(∀ j (hj:j<k),(l[j]'(by omega)).column=c)->(∀ h:k<l.length,l[k].column≠c)->
 Jg x0 x1 c l=bU x0 (if h:0<k then(l[k -1]'(by omega)).x1 else x1) c++fI (l.drop k)
 |l,x1,0,_,_,h2=>by
  cases l with
  |nil=>simp[Jg,fI]
  |cons s l=>
   have:=h2 (by simp);simp only[List.getElem_cons_zero]at this;simp[Jg,fI,this]
 |[],x1,k+1,hk,_,_=>by simp at hk
 |s::l,x1,k+1,hk,h1,h2=>by
  have e0:=h1 0 (by omega);simp only[List.getElem_cons_zero]at e0;simp only[Jg,e0,if_true];rw[acp x0 c l s.x1 k (by simpa using hk) (λ j hj=>by have:=h1 (j+1) (by omega);simpa using this) (λ h=>by have:=h2 (by simpa using h);simpa using this)];simp only[List.drop_succ_cons];congr 2;by_cases hk0:0<k
  ·simp only[hk0,dite_true,Nat.zero_lt_succ,Nat.add_sub_cancel];obtain⟨m,rfl⟩:∃m,k=m+1:=⟨k -1,by omega⟩;simp
  ·have:k=0:=(by omega);subst this;simp
theorem Oc(l:List bF)(b:Nat)(h:∀s∈l,s.column.length<=b):(fI l).length<=l.length*b:=by
 have go:∀(l:List bF)(x0 x1:Int)(c:List aJ),c.length<=b->(∀ s∈l,s.column.length<=b)->(Jg x0 x1 c l).length<=(l.length+1)*b:=by
  intro l
  induction l with
  |nil=>intro x0 x1 c hc _;simp only[Jg,bU,length_map,length_nil];omega
  |cons s l ih=>
   intro x0 x1 c hc hl;simp only[Jg];split
   ·have:=ih x0 s.x1 c hc (λ t ht=>hl t (dD _ ht));simp only[bH,Nat.add_mul]at*;omega
   ·have:=ih s.x0 s.x1 s.column (hl s (by simp)) (λ t ht=>hl t (dD _ ht));simp only[bW,bU,length_map,bH,Nat.add_mul]at*;omega
 cases l with
 |nil=>simp[fI]
 |cons s l=>
  simp only[fI];exact go l _ _ _ (h s (by simp)) (λ t ht=>h t (dD _ ht))
theorem VH{l:List bF}{i k:Nat}(hi:i<l.length)(hk1:0<k)(hk:k<=l.length)(hl:l.length<10995116277)(x3:bF)(aa:List ay)(ho:aa.length<1099511627776)(hc:x3.column.length<1099511627776)(hn:x3.column.length<n):
 iter (yH l (i:Int) (k:Int) x3) n ((0:Int),aa)=some (aa++bU l[i].x0 (l[k -1]'(by omega)).x1 x3.column):=by
 have:=j6 (l:=x3.column) (step:=yH l (i:Int) (k:Int) x3) (λ j (s:List ay)=>((j:Int),s)) (λ q s=>s++[⟨l[i].x0,q.from_,(l[k -1]'(by omega)).x1,q.to⟩]) (λ s=>s) (λ j s=>s.length<=aa.length+j)
  (λ j hj s hs=>?_) (λ s hs=>by simp[yH]) n hn aa (aT _)
 ·rw[show ((0:Nat):Int)=0 from rfl]at this;rw[this];have gen:∀(ys:List aJ)(s:List ay),ys.foldl (λ s q=>s++[⟨l[i].x0,q.from_,(l[k -1]'(by omega)).x1,q.to⟩]) s=s++bU l[i].x0 (l[k -1]'(by omega)).x1 ys:=by
   intro ys
   induction ys with
   |nil=>intro s;simp[bU]
   |cons y ys ih=>intro s;simp only[foldl_cons,ih];simp[bU]
  rw[gen]
 ·have hj':decide ((j:Int)<(x3.column.length:Int))=true:=by simpa using hj
  have wp:i64.wrap ((k:Int) -1)=((k -1:Nat):Int):=iJ hk1 (by omega);have ap:bD s.length s.length (sub ([(ay.mk l[i].x0 (x3.column[j]).from_ (l[k -1]'(by omega)).x1 (x3.column[j]).to)]:List ay) 0 1).length 1 32=true:=bB (n:=1);simp only[yH,hj',ai,aZ hj,aZ hi,wp,aZ (show k -1<l.length by omega),ah,ap,dH,aB];refine⟨?_,by simp;omega⟩;rw[aO (by omega)];rfl
theorem afX{l:List bF}{b:Nat}(hb:b<=100000)(hl:l.length<=100000)(hc:∀s∈l,s.column.length<=b)(hn:b<n)(hn2:l.length<n):QU n l=some (fI l):=by
 unfold QU;simp only[length_nil,aB,ai];have main:∀(m i:Nat)(aa:List ay)(k:Nat),i+m=l.length->m<k->aa.length<=i*b->iter (yI n l) k ((i:Int),aa)=some (aa++fI (l.drop i)):=by
  intro m
  induction m using Nat.strongRecOn with
  |ind m ih=>
   intro i aa k him hk ho;obtain⟨k,rfl⟩:∃j,k=j+1:=⟨k -1,by omega⟩;by_cases hm:m=0
   ·subst hm;have:i=l.length:=(by omega);subst this;refine bn ?_;simp[yI,fI]
   ·have hi:i<l.length:=(by omega);have di:decide ((i:Int)<(l.length:Int))=true:=(by simpa using hi);obtain⟨q,hq1,hq2,hq3,hq4⟩:∃q,i<q/\q<=l.length/\(∀ j,i<j->j<q->∀h:j<l.length,l[j].column=l[i].column)/\(∀ h:q<l.length,l[q].column≠l[i].column):=by
     rcases N9 (λ j=>if h:j<l.length then decide (l[j].column≠l[i].column)else false) (i+1) l.length with ⟨q,h1,h2,h3,h4⟩ |h
     ·simp only[h2,dite_true,aG]at h3;refine⟨q,by omega,by omega,λj hj1 hj2 hj=>?_,λ_=>h3⟩;have:=h4 j (by omega) hj2;simp only[hj,dite_true,dn,ne_eq,Decidable.not_not]at this;exact this
     ·refine⟨l.length,hi,aT _,λj hj1 hj2 hj=>?_,λh=>by omega⟩;have:=h j (by omega) hj;simp only[hj,dite_true,dn,ne_eq,Decidable.not_not]at this;exact this
    have cl:∀j (hj:j<l.length),l[j].column.length<=b:=λj hj=>hc _ (getElem_mem hj);have r2:iter (tX n l (i:Int)) n (i64.wrap ((i:Int)+1))=some (q:Int):=by
     rw[aO (by omega)];have:=jK (step:=tX n l (i:Int)) (λ j=>((i+1+j:Nat):Int)) (q -(i+1)) (q:Int) (λ j hj=>?_) ?_ n (by omega)
     ·simpa using this
     ·have hjl:i+1+j<l.length:=(by omega);have dj:decide (((i+1+j:Nat):Int)<(l.length:Int))=true:=(by simp;omega);have hcc:=cl (i+1+j) hjl;simp only[tX,dj,ai,aZ hjl,aZ hi,ah];rw[GJ (by omega) (by omega),hq3 (i+1+j) (by omega) (by omega) hjl];simp only[decide_true,ah,ai];rw[aO (by omega)];rfl
     ·rw[show i+1+(q -(i+1))=q by omega];by_cases GS:q<l.length
      ·have dj:decide ((q:Int)<(l.length:Int))=true:=(by simpa using GS);have hcc:=cl q GS;simp only[tX,dj,ai,aZ GS,aZ hi,ah];rw[GJ (by omega) (by omega)];simp[hq4 GS]
      ·have dj:decide ((q:Int)<(l.length:Int))=false:=(by simp;omega);simp only[tX,dj,ak,ah]
    have ob:i*b<=100000*100000:=Nat.mul_le_mul (by omega) hb;have hci:=cl i hi;have r3:=VH (n:=n) hi (show 0<q by omega) hq2 (by omega) l[i] aa (by omega) (by omega) (by omega);have step:yI n l ((i:Int),aa)=some (.inl ((q:Int),aa++bU l[i].x0 (l[q -1]'(by omega)).x1 l[i].column)):=(by simp only[yI,di,ai,r2,aZ hi,ah,aB,r3]);rw[dw step,ih (l.length -q) (by omega) q _ k (by omega) (by omega) (by
     rw[bW,bU,length_map];have:(i+1)*b<=q*b:=Nat.mul_le_mul_right _ (by omega);rw[Nat.add_mul]at this;omega)]
    rw[aN];congr 2
    conv=>rhs;rw[drop_eq_getElem_cons hi]
    simp only[fI];rw[acp l[i].x0 l[i].column (l.drop (i+1)) l[i].x1 (q -(i+1)) (by rw[length_drop];omega) (λ j hj=>by
     rw[getElem_drop];exact hq3 _ (by omega) (by omega) (by omega)) (λ h=>by
     rw[length_drop]at h;rw[getElem_drop];have:=hq4 (by omega);have hqq:i+1+(q -(i+1))=q:=(by omega);simp only[hqq];exact this)]
    rw[List.drop_drop,show i+1+(q -(i+1))=q by omega];congr 2;by_cases h0:0<q -(i+1)
    ·simp only[h0,dite_true,getElem_drop];congr 2;omega
    ·simp only[h0,dite_false];have:q -1=i:=(by omega);congr 2
 have:=main l.length 0 [] n (by omega) (by omega) (by simp);simp only[Int.natCast_zero,bI,List.drop_zero]at this;rw[this];simp
def kf(l:List ay):List ay×Int:=
 if l.all cL then(if l.length>400 then([],6)else if (fI (dh l)).length>200 then([],6)else(fI (dh l),0))else([],1)
def cD(l:List ay):Bool:=decide ((kf l).2=0)&&decide ((kf l).1=l)
theorem Vb{l:List ay}{s:bF}(h:s∈dh l):s.column.length<=l.length:=by
 obtain⟨i,hi,rfl⟩:=List.getElem_of_mem h;obtain⟨p1,p2⟩:=pK (λ a b=>(⟨a,b,bR l a⟩:bF)) (bP l);have:(dh l)[i]=⟨(bP l)[i]'(by unfold dh at hi;omega),(bP l)[i+1]'(by unfold dh at hi;omega),bR l ((bP l)[i]'(by unfold dh at hi;omega))⟩:=p2 i (by unfold dh at hi;omega) hi;rw[this];exact pJ l _
theorem YQ(l:List ay):(dh l).length<=2*l.length:=by
 obtain⟨p1,_⟩:=pK (λ a b=>(⟨a,b,bR l a⟩:bF)) (bP l);have:=l7 l;unfold dh;omega
theorem anh{l:List ay}(hl:l.length<1099511627776)(hl2:l.length<n)(hn:1000<=n):Hm n l=some (kf l):=by
 unfold Hm;have h1:=iK (l:=l) (step:=QV l) (λ i=>(i:Int)) (λ r=>!cL r) () (λ _=>(([]:List ay),(1:Int))) (λ i hi=>?_) ?_ n (by omega)
 ·rw[show ((0:Nat):Int)=0 from rfl]at h1;rw[h1];have h2:=jf (λ r=>!cL r) l;cases hf:kK (λ r=>!cL r) l with
  |some i=>
   rw[hf]at h2;have:l.all cL=false:=by
    rw[<- Bool.not_eq_true,all_eq_true];intro hall;have h3:=h2.symm;simp only[Option.isSome_some,any_eq_true]at h3;obtain⟨x,hx,hx2⟩:=h3;rw[hall x hx]at hx2;cases hx2
   simp[kf,this]
  |none=>
   rw[hf]at h2;have:l.all cL=true:=by
    rw[all_eq_true];intro x hx;cases h:cL x with
    |true=>rfl
    |false=>
     have:l.any (λ r=>!cL r)=true:=any_eq_true.2 ⟨x,hx,by rw[h];rfl⟩;rw[this]at h2;cases h2
   have hv:∀r∈l,cL r=true:=all_eq_true.1 this;by_cases rI:l.length>400
   ·have d4:decide ((l.length:Int)>400)=true:=(by simp;omega);simp only[fB,d4,ai,kf,this,if_true,aP rI]
   have d4:decide ((l.length:Int)>400)=false:=(by simp;omega);have ls:=YQ l;simp only[fB,d4,ak];have fl:[l].flatten=l:=(by simp);rw[show (sub ([l]:List (List ay)) 0 1)=[l]from rfl,adO (ls:=[l]) (by rw[fl];exact hv) (by rw[fl];omega) (by simp) (by rw[fl];omega) (by simp;omega),fl];simp only[length_singleton,aB,ai,ah,bG];rw[afX (b:=400) (by omega) (by omega) (λ s hs=>Nat.le_trans (Vb hs) (by omega)) (by omega) (by omega)];simp only[ah,bG,aB,ai,O3,kf,this,if_true,aM rI];by_cases qk:(fI (dh l)).length>200
   ·have:decide (((fI (dh l)).length:Int)>200)=true:=(by simp;omega);simp only[this,ai,ah,qk,if_true]
   ·have:decide (((fI (dh l)).length:Int)>200)=false:=(by simp;omega);simp only[this,ak,ah,qk,if_false]
 ·have hi':decide ((i:Int)<(l.length:Int))=true:=by simpa using hi
  simp only[QV,hi',ai,aZ hi,ah,nN];cases cL l[i]with
  |false=>rfl
  |true=>simp only[Bool.not_true,ak];rw[aO (by omega)]
 ·simp[QV]
theorem Ez{l:List ay}(hl:l.length<1099511627776)(hl2:l.length<n)(hn:1000<=n):BK n l=some (cD l):=by
 unfold BK cD;rw[anh hl hl2 hn];simp only[ah];by_cases h:(kf l).2=0
 ·have e:((kf l).2==0)=true:=by simp[h]
  have lo:(kf l).1.length<=200:=by
   unfold kf;split
   ·split
    ·simp
    ·split
     ·simp
     ·simp;omega
   ·simp
  by_cases hlen:(kf l).1.length<n
  ·simp only[e,ai,h,decide_true,Bool.true_and];rw[TD (by omega) hlen];rfl
  ·have:(kf l).1.length≠l.length:=(by omega);have hne:(kf l).1≠l:=λe=>this (by rw[e]);simp only[e,ai,h,decide_true,Bool.true_and];unfold rF;have hb:(((kf l).1.length:Int) !=(l.length:Int))=true:=(by simp;omega);rw[hb];simp[hne]
 ·have e:((kf l).2==0)=false:=by simp[h]
  simp[e,h]
theorem sk{α:Type}(c:Bool)(a b:α):(bif c then some a else some b)=some (bif c then a else b):=by cases c<;>rfl
theorem acr(i n:Nat):Int.tmod (i:Int) (n:Int)=((i%n:Nat):Int):=by rw[Int.tmod_eq_emod_of_nonneg (by omega)];omega
theorem dm{i n:Nat}(h:i<n):decide ((i:Int)<(n:Int))=true:=by simpa using h
theorem bT(n:Nat):decide ((n:Int)<(n:Int))=false:=by simp
theorem Rr{k b:Nat}(h:k*b<=140737488355328)(h2:k<=maxLen):J9 (k:Int) b=true:=by
 have e:((k:Int)).toNat=k:=by omega
 simp only[J9,aD,aG,e];exact⟨⟨by omega,h⟩,h2⟩
def jF(l:List ay)(x y:Int):Bool:=l.any λr=>(decide (r.x0<=x)&&decide (x<r.x1))&&(decide (r.y0<=y)&&decide (y<r.y1))
theorem Vd(l:List ay)(x y:Int):ej (fA l x) y=jF l x y:=by
 induction l with
 |nil=>rfl
 |cons r l ih=>
  unfold fA jF at*;rw[List.filter_cons,List.any_cons,<- ih];cases h:(decide (r.x0<=x)&&decide (x<r.x1))with
  |true=>simp only[if_true,aF,Bool.true_and];rw[lD]
  |false=>simp
theorem lG{l:List ay}(h:∀r∈l,cL r=true)(x:Int):Can (bR l x)/\∀y,ej (bR l x) y=jF l x y:=by
 have⟨h1,h2⟩:=aco (YP h x);exact⟨h1,λy=>by rw[bR,h2,Vd]⟩
def qQ:List bF->Prop
 |[]=>True
 |[s]=>s.x0<s.x1
 |s::t::l=>s.x0<s.x1/\s.x1=t.x0/\qQ (t::l)
def jD:List bF->Int->List aJ
 |[],_=>[]
 |s::l,x=>bif decide (s.x0<=x)&&decide (x<s.x1)then s.column else jD l x
theorem kE(s:bF)(l:List bF)(x:Int):jD (s::l) x=bif decide (s.x0<=x)&&decide (x<s.x1)then s.column else jD l x:=rfl
def Runs:List bF->Prop
 |[]=>True
 |[s]=>s.x0<s.x1/\s.column≠[]
 |s::t::l=>(s.x0<s.x1/\s.column≠[])/\s.x1<=t.x0/\(s.x1=t.x0->s.column≠t.column)/\Runs (t::l)
theorem je{s:bF}{l:List bF}(h:Runs (s::l)):Runs l:=by
 cases l with
 |nil=>trivial
 |cons t l=>exact h.2.2.2
theorem jX{s:bF}{l:List bF}(h:Runs (s::l)):s.x0<s.x1/\s.column≠[]:=by
 cases l with
 |nil=>exact h
 |cons t l=>exact h.1
theorem lH:∀{l:List bF}{b x:Int},Runs l->(∀ s∈l.head?,b<=s.x0)->x<b->jD l x=[]
 |[],_,_,_,_,_=>rfl
 |s::l,b,x,h,hb,hx=>by
  have h0:=hb s rfl;have hs:=jX h;have c:(decide (s.x0<=x)&&decide (x<s.x1))=false:=by rw[Bool.and_eq_false_iff,dn];left;omega
  rw[kE,c,ak];refine lH (je h) (b:=s.x1) (λ t ht=>?_) (by omega);cases l with
  |nil=>cases ht
  |cons u l=>
   have:t=u:=(by simpa using ht.symm);subst this;exact h.2.1
theorem xX{s:bF}{l:List bF}{x:Int}(h1:s.x0<=x)(h2:x<s.x1):jD (s::l) x=s.column:=by rw[kE,show(decide (s.x0<=x)&&decide (x<s.x1))=true by simp[h1,h2]];rfl
theorem yT{s:bF}{l:List bF}{x:Int}(h:s.x1<=x):jD (s::l) x=jD l x:=by rw[kE,show(decide (s.x0<=x)&&decide (x<s.x1))=false by rw[Bool.and_eq_false_iff,dn,dn];right;omega];rfl
theorem afY{s:bF}{l:List bF}(h:Runs (s::l)):jD l s.x1≠s.column:=by
 have hs:=jX h;cases l with
 |nil=>exact λe=>hs.2 e.symm
 |cons t l=>
  obtain⟨_,h2,h3,h4⟩:=h;have ht:=jX h4;by_cases e:s.x1=t.x0
  ·rw[xX (by omega) (by omega)];exact λe'=>h3 e e'.symm
  ·rw[lH h4 (b:=t.x0) (λ u hu=>by have:u=t:=by simpa using hu.symm
                                  subst this;exact Int.le_refl _) (by omega)]
   exact λe'=>hs.2 e'.symm
theorem Ve:∀{l m:List bF},Runs l->Runs m->(∀ x,jD l x=jD m x)->l=m
 |[],[],_,_,_=>rfl
 |[],b::m,_,hm,h=>by
  have hb:=jX hm;have:=h b.x0;rw[xX (Int.le_refl _) hb.1]at this;exact absurd this.symm hb.2
 |a::l,[],hl,_,h=>by
  have ha:=jX hl;have:=h a.x0;rw[xX (Int.le_refl _) ha.1]at this;exact absurd this ha.2
 |a::l,b::m,hl,hm,h=>by
  have ha:=jX hl;have hb:=jX hm;have e0:a.x0=b.x0:=by
   rcases Int.lt_trichotomy a.x0 b.x0 with hlt |he |hlt
   ·have:=h a.x0
    rw[xX (Int.le_refl _) ha.1,lH hm (b:=b.x0) (λ u hu=>by have:u=b:=by simpa using hu.symm
                                                           subst this;exact Int.le_refl _) hlt]at this
    exact absurd this ha.2
   ·exact he
   ·have:=h b.x0
    rw[xX (Int.le_refl _) hb.1,lH hl (b:=a.x0) (λ u hu=>by have:u=a:=by simpa using hu.symm
                                                           subst this;exact Int.le_refl _) hlt]at this
    exact absurd this.symm hb.2
  have ec:a.column=b.column:=by
   have:=h a.x0
   rwa [xX (Int.le_refl _) ha.1,xX (by omega) (by omega)]at this
  have e1:a.x1=b.x1:=by
   rcases Int.lt_trichotomy a.x1 b.x1 with hlt |he |hlt
   ·have:=h a.x1;rw[yT (Int.le_refl _),xX (by omega) hlt]at this;exact absurd (this.trans ec.symm) (afY hl)
   ·exact he
   ·have:=h b.x1;rw[yT (s:=b) (Int.le_refl _),xX (by omega) hlt]at this;exact absurd (this.symm.trans ec) (afY hm)
  have e:a=b:=by cases a;cases b;simp only at e0 e1 ec;rw[e0,e1,ec]
  subst e;rw[Ve (je hl) (je hm) λx=>?_];by_cases hx:x<a.x1
  ·have bl:=lH (je hl) (b:=a.x1) (x:=x) (λ t ht=>by
    cases l with
    |nil=>cases ht
    |cons u l=>
     have:t=u:=(by simpa using ht.symm);subst this;exact hl.2.1) hx
   have bm:=lH (je hm) (b:=a.x1) (x:=x) (λ t ht=>by
    cases m with
    |nil=>cases ht
    |cons u m=>
     have:t=u:=(by simpa using ht.symm);subst this;exact hm.2.1) hx
   rw[bl,bm]
  ·have:=h x
   rwa [yT (by omega),yT (by omega)]at this
def LW(x0 x1:Int)(c:List aJ):List bF:=if c=[]then []else [⟨x0,x1,c⟩]
def JW(x0 x1:Int)(c:List aJ):List bF->List bF
 |[]=>LW x0 x1 c
 |s::l=>if s.column=c then JW x0 s.x1 c l else LW x0 x1 c++JW s.x0 s.x1 s.column l
def Od:List bF->List bF
 |[]=>[]
 |s::l=>JW s.x0 s.x1 s.column l
def lI(l:List bF):List ay:=l.flatMap λs=>bU s.x0 s.x1 s.column
theorem Vf(x0 x1:Int)(c:List aJ):lI (LW x0 x1 c)=bU x0 x1 c:=by
 unfold LW;split
 ·rename_i h;subst h;rfl
 ·simp[lI]
theorem TK:∀(l:List bF)(x0 x1:Int)(c:List aJ),Jg x0 x1 c l=lI (JW x0 x1 c l)
 |[],x0,x1,c=>(Vf x0 x1 c).symm
 |s::l,x0,x1,c=>by
  simp only[Jg,JW];split
  ·exact TK l _ _ _
  ·rw[TK l];unfold lI;rw[List.flatMap_append];congr 1;exact(Vf x0 x1 c).symm
theorem yU(l:List bF):fI l=lI (Od l):=by
 cases l with
 |nil=>rfl
 |cons s l=>exact TK l _ _ _
theorem O9(x0:Int):∀(l:List bF)(x1:Int)(c:List aJ),x0<x1->(∀ s∈l.head?,x1=s.x0)->qQ l->∀t∈(JW x0 x1 c l).head?,x0<=t.x0/\(t.x0=x0->t.column=c)
 |[],x1,c,_,_,_,t,ht=>by
  simp only[JW,LW]at ht;split at ht
  ·cases ht
  ·have:t=⟨x0,x1,c⟩:=(by simpa using ht.symm);subst this;exact⟨Int.le_refl _,λ_=>rfl⟩
 |s::l,x1,c,hx,hc,hS,t,ht=>by
  have e:=hc s rfl;have hs:s.x0<s.x1/\(∀ u∈l.head?,s.x1=u.x0)/\qQ l:=by
   cases l with
   |nil=>exact⟨hS,λu hu=>(by cases hu),trivial⟩
   |cons v l=>exact⟨hS.1,λu hu=>by have:u=v:=by simpa using hu.symm
                                   subst this;exact hS.2.1,hS.2.2⟩
  simp only[JW]at ht;split at ht
  ·exact O9 x0 l s.x1 c (by omega) hs.2.1 hs.2.2 t ht
  ·unfold LW at ht;split at ht
   ·rw[bI]at ht;have:=O9 s.x0 l s.x1 s.column hs.1 hs.2.1 hs.2.2 t ht;exact⟨by omega,λh=>by omega⟩
   ·have:t=⟨x0,x1,c⟩:=(by simpa using ht.symm);subst this;exact⟨Int.le_refl _,λ_=>rfl⟩
theorem ak7{s:bF}{l:List bF}(h1:s.x0<s.x1)(h2:s.column≠[])(h3:∀t∈l.head?,s.x1<=t.x0/\(s.x1=t.x0->s.column≠t.column))(h4:Runs l):Runs (s::l):=by
 cases l with
 |nil=>exact⟨h1,h2⟩
 |cons t l=>
  have:=h3 t rfl;exact⟨⟨h1,h2⟩,this.1,this.2,h4⟩
theorem Pb:∀(l:List bF)(x0 x1:Int)(c:List aJ),x0<x1->(∀ s∈l.head?,x1=s.x0)->qQ l->
 Runs (JW x0 x1 c l)/\∀x,jD (JW x0 x1 c l) x=bif decide (x0<=x)&&decide (x<x1)then c else jD l x
 |[],x0,x1,c,hx,_,_=>by
  simp only[JW,LW];split
  ·rename_i h;subst h;exact⟨trivial,λx=>by simp[jD]⟩
  ·rename_i h;exact⟨⟨hx,h⟩,λx=>rfl⟩
 |s::l,x0,x1,c,hx,hc,hS=>by
  have e:=hc s rfl;have hs:s.x0<s.x1/\(∀ u∈l.head?,s.x1=u.x0)/\qQ l:=by
   cases l with
   |nil=>exact⟨hS,λu hu=>(by cases hu),trivial⟩
   |cons v l=>exact⟨hS.1,λu hu=>by have:u=v:=by simpa using hu.symm
                                   subst this;exact hS.2.1,hS.2.2⟩
  simp only[JW];split
  ·rename_i wj;obtain⟨r1,r2⟩:=Pb l x0 s.x1 c (by omega) hs.2.1 hs.2.2;refine⟨r1,λx=>?_⟩;rw[r2,kE,wj];by_cases h1:x0<=x<;>by_cases h2:x<x1<;>by_cases h3:s.x0<=x<;>by_cases h4:x<s.x1<;>simp[h1,h2,h3,h4]<;>omega
  ·rename_i wj;have⟨r1,r2⟩:=Pb l s.x0 s.x1 s.column hs.1 hs.2.1 hs.2.2;have hd:=O9 s.x0 l s.x1 s.column hs.1 hs.2.1 hs.2.2;unfold LW;split
   ·rename_i hn;subst hn;rw[bI];refine⟨r1,λx=>?_⟩;rw[r2,kE];by_cases h1:x0<=x<;>by_cases h2:x<x1
    ·have h3:¬s.x0<=x:=(by omega);simp only[h1,h2,h3,decide_true,decide_false,Bool.and_self,Bool.false_and,ai,ak];have:=lH r1 (b:=s.x0) (x:=x) (λ t ht=>(hd t ht).1) (by omega);rw[r2]at this;simpa[h3]using this
    all_goals simp[h1,h2]
   ·rename_i hn;rw[List.singleton_append];refine⟨ak7 hx hn (λ t ht=>?_) r1,λx=>?_⟩
    ·have⟨d1,d2⟩:=hd t ht;refine⟨by show x1<=t.x0;omega,λht2 hcc=>?_⟩;have ht2:x1=t.x0:=ht2;rw[d2 (by omega)]at hcc;exact wj hcc.symm
    ·rw[kE,r2,kE]
theorem Cc{l:List bF}(h:qQ l):Runs (Od l)/\∀x,jD (Od l) x=jD l x:=by
 cases l with
 |nil=>exact⟨trivial,λ_=>rfl⟩
 |cons s l=>
  have hs:s.x0<s.x1/\(∀ u∈l.head?,s.x1=u.x0)/\qQ l:=by
   cases l with
   |nil=>exact⟨h,λu hu=>(by cases hu),trivial⟩
   |cons v l=>exact⟨h.1,λu hu=>by have:u=v:=by simpa using hu.symm
                                  subst this;exact h.2.1,h.2.2⟩
  have⟨r1,r2⟩:=Pb l s.x0 s.x1 s.column hs.1 hs.2.1 hs.2.2;exact⟨r1,λx=>by rw[kE];exact r2 x⟩
theorem aay{l m:List bF}(hl:qQ l)(hm:qQ m)(h:∀x,jD l x=jD m x):fI l=fI m:=by
 have⟨l1,l2⟩:=Cc hl;have⟨m1,m2⟩:=Cc hm;rw[yU,yU,Ve l1 m1 λx=>by rw[l2,m2,h]]
theorem YR(l m:List ay)(x:Int):fA (l++m) x=fA l x++fA m x:=by simp[fA]
theorem aaz(x0 x1:Int)(c:List aJ)(x:Int):fA (bU x0 x1 c) x=bif decide (x0<=x)&&decide (x<x1)then c else []:=by
 unfold fA bU
 induction c with
 |nil=>simp
 |cons s c ih=>
  rw[aF,List.filter_cons];cases h:(decide (x0<=x)&&decide (x<x1))with
  |true=>rw[h]at ih;simp only[if_true,aF,ih,ai]
  |false=>rw[h]at ih;simpa using ih
theorem Rc:∀{l:List bF},Runs l->∀x,fA (lI l) x=jD l x
 |[],_,x=>rfl
 |s::l,h,x=>by
  have ih:=Rc (je h) x;have hs:=jX h;show fA (bU s.x0 s.x1 s.column++lI l) x=_;rw[YR,aaz,ih,kE];cases hc:(decide (s.x0<=x)&&decide (x<s.x1))with
  |false=>rfl
  |true=>
   rw[aD,aG,aG]at hc;have:=lH (je h) (b:=s.x1) (x:=x) (λ t ht=>by
    cases l with
    |nil=>cases ht
    |cons u l=>
     have:t=u:=(by simpa using ht.symm);subst this;exact h.2.1) hc.2
   rw[this];simp
theorem YS{l:List bF}(h:qQ l)(x:Int):fA (fI l) x=jD l x:=by
 have⟨h1,h2⟩:=Cc h;rw[yU,Rc h1,h2]
theorem adQ{l:List bF}(h:qQ l)(x y:Int):jF (fI l) x y=ej (jD l x) y:=by rw[<- Vd,YS h]
theorem lJ{α:Type}(f:Int->Int->α)(a b:Int)(l:List Int):iq f (a::b::l)=f a b::iq f (b::l):=rfl
theorem Ar(g:Int->List aJ):∀(es:List Int),es.Pairwise (· < ·)->qQ (iq (λ a b=>(⟨a,b,g a⟩:bF)) es)
 |[],_=>trivial
 |[_],_=>trivial
 |[a,b],h=>by
  have h1:=(pairwise_cons.1 h).1 b (by simp);exact h1
 |a::b::c::l,h=>by
  have h1:=(pairwise_cons.1 h).1 b (by simp);exact⟨h1,rfl,Ar g (b::c::l) (pairwise_cons.1 h).2⟩
theorem LX(g:Int->List aJ)(x:Int):∀(es:List Int),(∀ e∈es,x<e)->jD (iq (λ a b=>(⟨a,b,g a⟩:bF)) es) x=[]
 |[],_=>rfl
 |[_],_=>rfl
 |a::b::l,h=>by
  have ha:=h a (by simp);rw[lJ,kE,show(decide (a<=x)&&decide (x<b))=false by rw[Bool.and_eq_false_iff,dn];left;omega,ak];exact LX g x (b::l) λe he=>h e (dD _ he)
theorem LY(g:Int->List aJ)(x:Int):∀(l:List Int)(a:Int),(a::l).Pairwise (· < ·)->a<=x->
 (∀ e∈a::l,e<=x->(∀ e'∈a::l,e'<=e\/x<e')->g e=g x)->((∀ e∈a::l,e<=x)->g x=[])->jD (iq (λ a b=>(⟨a,b,g a⟩:bF)) (a::l)) x=g x
 |[],a,_,hx,_,h2=>(h2 (λ e he=>by have:e=a:=by simpa using he
                                  subst this;exact hx)).symm
 |b::l,a,hp,hx,h1,h2=>by
  have hab:=(pairwise_cons.1 hp).1 b (by simp);rw[lJ,kE];by_cases hb:x<b
  ·rw[show (decide (a<=x)&&decide (x<b))=true by simp[hx,hb],ai];refine h1 a (by simp) hx λe he=>?_;rcases aK.1 he with rfl |he
   ·exact .inl (Int.le_refl _)
   ·right;rcases aK.1 he with rfl |he
    ·exact hb
    ·have:=(pairwise_cons.1 (pairwise_cons.1 hp).2).1 e he;omega
  ·rw[show (decide (a<=x)&&decide (x<b))=false by simp[hb],ak];refine LY g x l b (pairwise_cons.1 hp).2 (by omega) (λ e he hex hc=>h1 e (dD _ he) hex λe' he'=>?_) λhall=>h2 λe he=>?_
   ·rcases aK.1 he' with rfl |he'
    ·left;have:=(pairwise_cons.1 hp).1 e he;omega
    ·exact hc e' he'
   ·rcases aK.1 he with rfl |he
    ·exact hx
    ·exact hall e he
theorem Vg(g:Int->List aJ)(es:List Int)(hp:es.Pairwise (· < ·))(x:Int)
 (h1:∀e∈es,e<=x->(∀ e'∈es,e'<=e\/x<e')->g e=g x) (h2:(∀ e∈es,e<=x)->g x=[]) (h3:(∀ e∈es,x<e)->g x=[]):jD (iq (λ a b=>(⟨a,b,g a⟩:bF)) es) x=g x:=by
 cases es with
 |nil=>exact(h3 (by simp)).symm
 |cons a l=>
  by_cases hx:a<=x
  ·exact LY g x l a hp hx h1 h2
  ·have hall:∀e∈a::l,x<e:=by
    intro e he;rcases aK.1 he with rfl |he
    ·omega
    ·have:=(pairwise_cons.1 hp).1 e he;omega
   rw[LX g x _ hall,h3 hall]
theorem Jh{l:List ay}{z:Int}:z∈bP l↔∃r∈l,z=r.x0\/z=r.x1:=by
 rw[bP,BD,mem_flatMap];simp
theorem rT(l:List ay):(bP l).Pairwise (· < ·):=o7 _
theorem Fj{l:List ay}{es:List Int}(hes:∀r∈l,r.x0∈es/\r.x1∈es){e x:Int}(hex:e<=x)(hc:∀e'∈es,e'<=e\/x<e'):fA l e=fA l x:=by
 unfold fA;congr 1;refine List.filter_congr λr hr=>?_;have⟨h0,h1⟩:=hes r hr;have:=hc _ h0;have:=hc _ h1;rw[eu,aD,aD,aG,aG,aG,aG];omega
theorem qj{l:List ay}{x:Int}(h:∀r∈l,x<r.x0\/r.x1<=x):fA l x=[]:=by
 unfold fA;rw[List.map_eq_nil_iff,List.filter_eq_nil_iff];intro r hr;have:=h r hr;rw[aD,aG,aG];omega
theorem LZ(l:List ay):qQ (dh l):=Ar _ _ (rT l)
theorem Oe(l:List ay)(x:Int):jD (dh l) x=bR l x:=by
 have hes:∀r∈l,r.x0∈bP l/\r.x1∈bP l:=λr hr=>⟨Jh.2 ⟨r,hr,.inl rfl⟩,Jh.2 ⟨r,hr,.inr rfl⟩⟩;refine Vg (bR l) (bP l) (rT l) x (λ e _ hex hc=>?_) (λ hall=>?_) (λ hall=>?_)
 ·unfold bR;rw[Fj hes hex hc]
 ·unfold bR;rw[qj λr hr=> .inr (hall _ (hes r hr).2)];rfl
 ·unfold bR;rw[qj λr hr=> .inl (hall _ (hes r hr).1)];rfl
theorem Vh{l:List bF}{r:ay}:r∈lI l↔∃s∈l,∃q∈s.column,r=⟨s.x0,q.from_,s.x1,q.to⟩:=by
 simp only[lI,bU,mem_flatMap,mem_map];constructor
 ·rintro⟨s,hs,q,hq,rfl⟩;exact⟨s,hs,q,hq,rfl⟩
 ·rintro⟨s,hs,q,hq,rfl⟩;exact⟨s,hs,q,hq,rfl⟩
theorem EA:∀{l:List bF},Runs l->∀s∈l,s.x0<s.x1/\∀x,s.x0<=x->x<s.x1->jD l x=s.column
 |[],_,s,hs=>by simp at hs
 |t::l,h,s,hs=>by
  rcases aK.1 hs with rfl |hs
  ·exact⟨(jX h).1,λx h1 h2=>xX h1 h2⟩
  ·have⟨g1,g2⟩:=EA (je h) s hs;refine⟨g1,λx h1 h2=>?_⟩;have:t.x1<=x:=by
    by_cases hlt:x<t.x1
    ·have hb:=lH (je h) (b:=t.x1) (x:=x) (λ u hu=>by
      cases l with
      |nil=>cases hu
      |cons v l=>
       have:u=v:=(by simpa using hu.symm);subst this;exact h.2.1) hlt
     rw[g2 x h1 h2]at hb;have hne:s.column≠[]:=by
      have:∀{l:List bF},Runs l->∀s∈l,s.column≠[]:=by
       intro l
       induction l with
       |nil=>intro _ s hs;simp at hs
       |cons a l ih=>
        intro h s hs;rcases aK.1 hs with rfl |hs
        ·exact(jX h).2
        ·exact ih (je h) s hs
      exact this (je h) s hs
     exact absurd hb hne
    ·omega
   rw[yT this,g2 x h1 h2]
theorem ak8{a:List ay}(h:cD a=true):kf a=(a,0):=by
 unfold cD at h;rw[aD,aG,aG]at h;obtain⟨h1,h2⟩:=h;exact Prod.ext h2 h1
theorem vB{a:List ay}(h:cD a=true):(∀ r∈a,cL r=true)/\a.length<=200/\fI (dh a)=a:=by
 have h:=ak8 h;unfold kf at h;split at h
 ·rename_i hall;split at h
  ·simp at h
  ·split at h
   ·simp at h
   ·rename_i qk;injection h with h _;refine⟨all_eq_true.1 hall,?_,h⟩;rw[<- h];omega
 ·simp at h
def ext(aa:List aJ)(p:aJ):List aJ:=
 match aa.getLast? with
 |some q=>bif q.to==p.from_ then aa.dropLast++[⟨q.from_,p.to⟩]else aa++[p]
 |none=>[p]
def mS(a b:List aJ):List Int:=uF ((a++b).flatMap λs=>[s.from_,s.to])
def kN(keep:Bool->Bool->Bool)(a b:List aJ):List aJ:=
 ((iq aJ.mk (mS a b)).filter λp=>keep (ej a p.from_) (ej b p.from_)).foldl ext []
theorem aia(o:List aJ)(q p:aJ):ext (o++[q]) p=bif q.to==p.from_ then o++[⟨q.from_,p.to⟩]else o++[q]++[p]:=by simp[ext]
theorem ani{aa:List aJ}{p:aJ}(hc:Can aa)(hp:sT p)(hb:∀o∈aa,o.to<=p.from_):
 Can (ext aa p)/\(∀ o∈ext aa p,o.to<=p.to)/\∀y,ej (ext aa p) y=(ej aa y || ej [p] y):=by
 have hp':p.from_<p.to:=hp;rcases List.eq_nil_or_concat aa with rfl |⟨o,q,rfl⟩
 ·refine⟨⟨by simp[ext],by simp[ext];exact hp⟩,by simp[ext],λy=>by simp[ext,ej]⟩
 ·rw[List.concat_eq_append]at*;obtain⟨h1,h2⟩:=hc;rw[pairwise_append]at h1;obtain⟨p1,_,p3⟩:=h1;have hq:q.from_<q.to:=h2 q (by simp);have hqp:q.to<=p.from_:=hb q (by simp);rw[aia];cases hj:q.to==p.from_ with
  |true=>
   have hj:=eq_of_beq hj;simp only[ai];refine⟨⟨?_,?_⟩,?_,?_⟩
   ·rw[pairwise_append];refine⟨p1,by simp,λa ha b hb'=>?_⟩;rw[aW]at hb';subst hb';exact p3 a ha q (by simp)
   ·intro a ha;rcases bf.1 ha with ha |ha
    ·exact h2 a (by simp[ha])
    ·rw[aW]at ha;subst ha;show q.from_<p.to;omega
   ·intro a ha;rcases bf.1 ha with ha |ha
    ·have:=hb a (by simp[ha]);omega
    ·rw[aW]at ha;subst ha;exact Int.le_refl _
   ·intro y;rw[pI,pI,Bool.or_assoc];congr 1;simp only[lD,Aq,Bool.or_false];rw[eu];simp only[aD,Bool.or_eq_true,aG];omega
  |false=>
   rw[beq_eq_false_iff_ne]at hj;simp only[ak];refine⟨⟨?_,?_⟩,?_,?_⟩
   ·rw[pairwise_append];refine⟨?_,by simp,λa ha b hb'=>?_⟩
    ·rw[pairwise_append];exact⟨p1,by simp,p3⟩
    ·rw[aW]at hb';subst hb';rcases bf.1 ha with ha |ha
     ·have:=p3 a ha q (by simp);omega
     ·rw[aW]at ha;subst ha;omega
   ·intro a ha;rcases bf.1 ha with ha |ha
    ·exact h2 a ha
    ·rw[aW]at ha;subst ha;exact hp
   ·intro a ha;rcases bf.1 ha with ha |ha
    ·have:=hb a ha;omega
    ·rw[aW]at ha;subst ha;exact Int.le_refl _
   ·intro y;rw[pI]
theorem acs:∀(l aa:List aJ),Can aa->(∀ s∈l,sT s)->l.Pairwise (λ x y=>x.to<=y.from_)->(∀ o∈aa,∀s∈l,o.to<=s.from_)->Can (l.foldl ext aa)/\∀y,ej (l.foldl ext aa) y=(ej aa y || ej l y)
 |[],aa,hc,_,_,_=>⟨hc,λy=>by simp[Aq]⟩
 |s::l,aa,hc,hv,hp,hb=>by
  rw[pairwise_cons]at hp;obtain⟨m1,m2,m3⟩:=ani hc (hv s (by simp)) (λ o ho=>hb o ho s (by simp));obtain⟨f1,f2⟩:=acs l (ext aa s) m1 (λ t ht=>hv t (by simp[ht])) hp.2 (λ o ho t ht=>Int.le_trans (m2 o ho) (hp.1 t ht));refine⟨f1,λy=>?_⟩;rw[foldl_cons,f2,m3,Bool.or_assoc,<- pI];rfl
theorem afZ:∀(es:List Int),es.Pairwise (· < ·)->(∀ p∈iq aJ.mk es,sT p/\p.from_∈es/\p.to∈es/\∀e∈es,e<=p.from_\/p.to<=e)/\(iq aJ.mk es).Pairwise λx y=>x.to<=y.from_
 |[],_=>⟨by simp[iq],by simp[iq]⟩
 |[_],_=>⟨by simp[iq],by simp[iq]⟩
 |a::b::l,h=>by
  obtain⟨h1,h2⟩:=pairwise_cons.1 h;have⟨i1,i2⟩:=afZ (b::l) h2;have hab:=h1 b (by simp);rw[lJ];refine⟨λ p hp=>?_,?_⟩
  ·rcases aK.1 hp with rfl |hp
   ·refine⟨hab,by simp,by simp,λe he=>?_⟩;rcases aK.1 he with rfl |he
    ·exact .inl (Int.le_refl _)
    ·right;rcases aK.1 he with rfl |he
     ·exact Int.le_refl _
     ·have:=(pairwise_cons.1 h2).1 e he;show b<=e;omega
   ·have⟨g1,g2,g3,g4⟩:=i1 p hp;refine⟨g1,dD _ g2,dD _ g3,λe he=>?_⟩;rcases aK.1 he with rfl |he
    ·left;have:=h1 _ g2;omega
    ·exact g4 e he
  ·rw[pairwise_cons];refine⟨λ p hp=>?_,i2⟩;have⟨_,g2,_,_⟩:=i1 p hp;show b<=p.from_;rcases aK.1 g2 with e |g2
   ·omega
   ·have:=(pairwise_cons.1 h2).1 _ g2;omega
theorem Vi:∀(es:List Int)(y:Int),(∃ e∈es,e<=y)->(∃ e∈es,y<e)->es.Pairwise (· < ·)->∃p∈iq aJ.mk es,p.from_<=y/\y<p.to
 |[],y,⟨e,he,_⟩,_,_=>by simp at he
 |[a],y,⟨e,he,h1⟩,⟨e',he',h2⟩,_=>by
  have:e=a:=by simpa using he
  have:e'=a:=by simpa using he'
  omega
 |a::b::l,y,h1,h2,hp=>by
  obtain⟨g1,g2⟩:=pairwise_cons.1 hp;rw[lJ];by_cases hb:y<b
  ·refine⟨⟨a,b⟩,by simp,?_,hb⟩;obtain⟨e,he,S5⟩:=h1;show a<=y;rcases aK.1 he with rfl |he
   ·exact S5
   ·have:=g1 e he;omega
  ·obtain⟨e',he',h2'⟩:=h2;obtain⟨p,hp,q⟩:=Vi (b::l) y ⟨b,by simp,by omega⟩ ⟨e',(by
    rcases aK.1 he' with rfl |he'
    ·have:=g1 b (by simp);omega
    ·exact he'),h2'⟩ g2
   exact⟨p,dD _ hp,q⟩
theorem acu{c:List aJ}{es:List Int}(hes:∀s∈c,s.from_∈es/\s.to∈es){e y:Int}(S5:e<=y)(hc:∀e'∈es,e'<=e\/y<e'):ej c e=ej c y:=by
 rw[eu,Ap,Ap];constructor
 ·rintro⟨s,hs,h1,h2⟩;have:=hc _ (hes s hs).1;have:=hc _ (hes s hs).2;exact⟨s,hs,by omega,by omega⟩
 ·rintro⟨s,hs,h1,h2⟩;have:=hc _ (hes s hs).1;have:=hc _ (hes s hs).2;exact⟨s,hs,by omega,by omega⟩
theorem EB{keep:Bool->Bool->Bool}(hk:keep false false=false)(a b:List aJ):Can (kN keep a b)/\∀y,ej (kN keep a b) y=keep (ej a y) (ej b y):=by
 have hstr:(mS a b).Pairwise (· < ·):=o7 _;have hmem:∀z,z∈mS a b↔∃s,(s∈a\/s∈b)/\(z=s.from_\/z=s.to):=by
  intro z;rw[mS,BD,mem_flatMap];simp
 have ha:∀s∈a,s.from_∈mS a b/\s.to∈mS a b:=λs hs=>⟨(hmem _).2 ⟨s,.inl hs,.inl rfl⟩,(hmem _).2 ⟨s,.inl hs,.inr rfl⟩⟩;have hb:∀s∈b,s.from_∈mS a b/\s.to∈mS a b:=λs hs=>⟨(hmem _).2 ⟨s,.inr hs,.inl rfl⟩,(hmem _).2 ⟨s,.inr hs,.inr rfl⟩⟩;have⟨p1,p2⟩:=afZ (mS a b) hstr;obtain⟨f1,f2⟩:=acs ((iq aJ.mk (mS a b)).filter λp=>keep (ej a p.from_) (ej b p.from_)) [] WV (λ s hs=>(p1 s (mem_filter.1 hs).1).1) (p2.filter _) (by simp);refine⟨f1,λy=>?_⟩;rw[kN,f2,Aq,Bool.false_or];by_cases hin:(∃ e∈mS a b,e<=y)/\(∃ e∈mS a b,y<e)
 ·obtain⟨p,hp,h1,h2⟩:=Vi _ y hin.1 hin.2 hstr;have⟨_,_,_,q4⟩:=p1 p hp;have hc:∀e'∈mS a b,e'<=p.from_\/y<e':=λe' he'=>by rcases q4 e' he' with h |h<;>omega
  rw[<- acu ha h1 hc,<- acu hb h1 hc,eu,Ap];constructor
  ·rintro⟨s,hs,g1,g2⟩;rw[mem_filter]at hs;have⟨_,r2,r3,r4⟩:=p1 s hs.1;have:s.from_=p.from_:=by
    have e1:=q4 _ r2;have e2:=r4 _ (p1 p hp).2.1;omega
   rw[<- this];exact hs.2
  ·intro hkk;exact⟨p,mem_filter.2 ⟨hp,hkk⟩,h1,h2⟩
 ·have aa:∀c:List aJ,(∀ s∈c,s.from_∈mS a b/\s.to∈mS a b)->ej c y=false:=by
   intro c hc;cases hy:ej c y with
   |false=>rfl
   |true=>
    obtain⟨s,hs,g1,g2⟩:=(Ap _ _).1 hy;exact absurd ⟨⟨_,(hc s hs).1,g1⟩,⟨_,(hc s hs).2,g2⟩⟩ hin
  rw[aa a ha,aa b hb,hk];refine aa _ λs hs=>?_;obtain⟨_,r2,r3,_⟩:=p1 s (mem_filter.1 hs).1;exact⟨r2,r3⟩
def Ce(keep:Bool->Bool->Bool)(a b:List ay):List bF:=
 iq (λ x x'=>(⟨x,x',kN keep (bR a x) (bR b x)⟩:bF)) (bP (a++b))
theorem M9{keep:Bool->Bool->Bool}(hk:keep false false=false)(a b:List ay)(x:Int):jD (Ce keep a b) x=kN keep (bR a x) (bR b x):=by
 have hes:∀r∈a++b,r.x0∈bP (a++b)/\r.x1∈bP (a++b):=λr hr=>⟨Jh.2 ⟨r,hr,.inl rfl⟩,Jh.2 ⟨r,hr,.inr rfl⟩⟩;have ha:∀r∈a,r.x0∈bP (a++b)/\r.x1∈bP (a++b):=λr hr=>hes r (List.mem_append_left _ hr);have hb:∀r∈b,r.x0∈bP (a++b)/\r.x1∈bP (a++b):=λr hr=>hes r (List.mem_append_right _ hr);have hnil:kN keep [] []=[]:=rfl;have e0:uu []=[]:=rfl;refine Vg (λ x=>kN keep (bR a x) (bR b x)) (bP (a++b)) (rT _) x (λ e _ hex hc=>?_) (λ hall=>?_) (λ hall=>?_)
 ·unfold bR;rw[Fj ha hex hc,Fj hb hex hc]
 ·unfold bR;rw[qj λr hr=> .inr (hall _ (ha r hr).2),qj λr hr=> .inr (hall _ (hb r hr).2),e0,hnil]
 ·unfold bR;rw[qj λr hr=> .inl (hall _ (ha r hr).1),qj λr hr=> .inl (hall _ (hb r hr).1),e0,hnil]
theorem adR(l:List aJ):(l.flatMap λr=>[r.from_,r.to]).length=2*l.length:=by
 induction l with
 |nil=>rfl
 |cons x l ih=>simp only[List.flatMap_cons,bW,ih,bH,length_nil];omega
theorem aib(aa:List aJ)(p:aJ):(ext aa p).length<=aa.length+1:=by
 unfold ext;cases aa.getLast? with
 |none=>simp
 |some q=>simp only;cases q.to==p.from_<;>simp<;>omega
theorem aic(a b:List aJ):(mS a b).length<=2*(a.length+b.length):=by
 have h:=nX (mH (λ a b=>decide (a<b)) ((a++b).flatMap λr=>[r.from_,r.to]));rw[gB,adR,bW]at h;exact h
theorem Og(keep:Bool->Bool->Bool)(a b:List aJ):(kN keep a b).length<=2*(a.length+b.length):=by
 have gen:∀(ys aa:List aJ),(ys.foldl ext aa).length<=aa.length+ys.length:=by
  intro ys
  induction ys with
  |nil=>intro aa;simp
  |cons y ys ih=>
   intro aa;simp only[foldl_cons,bH];have:=ih (ext aa y);have:=aib aa y;omega
 have h:=gen ((iq aJ.mk (mS a b)).filter λp=>keep (ej a p.from_) (ej b p.from_)) [];have h2:=List.length_filter_le (λ p=>keep (ej a p.from_) (ej b p.from_)) (iq aJ.mk (mS a b));have h3:=(pK aJ.mk (mS a b)).1;have h4:=aic a b;simp only[length_nil]at h;unfold kN;omega
theorem ak9(keep:Bool->Bool->Bool)(a b:List ay):Ce keep a b=(dh (a++b)).map λs=>⟨s.x0,s.x1,kN keep (bR a s.x0) (bR b s.x0)⟩:=by
 have gen:∀es:List Int,iq (λ x x'=>(⟨x,x',kN keep (bR a x) (bR b x)⟩:bF)) es=(iq (λ x x'=>(⟨x,x',bR (a++b) x⟩:bF)) es).map λs=>⟨s.x0,s.x1,kN keep (bR a s.x0) (bR b s.x0)⟩:=by
  intro es
  match es with
  |[]=>rfl
  |[_]=>rfl
  |x::y::l=>
   rw[lJ,lJ,aF];congr 1;have:∀es:List Int,iq (λ x x'=>(⟨x,x',kN keep (bR a x) (bR b x)⟩:bF)) es=(iq (λ x x'=>(⟨x,x',bR (a++b) x⟩:bF)) es).map λs=>⟨s.x0,s.x1,kN keep (bR a s.x0) (bR b s.x0)⟩:=by
    intro es
    induction es with
    |nil=>rfl
    |cons x es ih=>
     cases es with
     |nil=>rfl
     |cons y es=>rw[lJ,lJ,aF,ih]
   exact this (y::l)
 exact gen (bP (a++b))
def sumTo:Nat->(Nat->Int)->Int
 | 0,_=>0
 |k+1,f=>sumTo k f+f k
theorem sumTo_congr{f g:Nat->Int}:∀n,(∀ i,i<n->f i=g i)->sumTo n f=sumTo n g
 | 0,_=>rfl
 |k+1,h=>by
  show sumTo k f+f k=sumTo k g+g k;rw[sumTo_congr k λi hi=>h i (by omega),h k (by omega)]
theorem TL(f g:Nat->Int):∀n,sumTo n (λ i=>f i+g i)=sumTo n f+sumTo n g
 | 0=>rfl
 |k+1=>by
  show sumTo k (λ i=>f i+g i)+(f k+g k)=(sumTo k f+f k)+(sumTo k g+g k);rw[TL f g k];omega
theorem Pd:∀n,sumTo n (λ _=>0)=0
 | 0=>rfl
 |k+1=>by
  show sumTo k (λ _=>0)+0=0;rw[Pd k];rfl
theorem YT(c:Int)(f:Nat->Int):∀n,sumTo n (λ i=>f i*c)=sumTo n f*c
 | 0=>by simp[sumTo]
 |k+1=>by
  show sumTo k (λ i=>f i*c)+f k*c=(sumTo k f+f k)*c;rw[YT c f k,Int.add_mul]
theorem YU(c:Int)(f:Nat->Int):∀n,sumTo n (λ i=>c*f i)=c*sumTo n f
 | 0=>by simp[sumTo]
 |k+1=>by
  show sumTo k (λ i=>c*f i)+c*f k=c*(sumTo k f+f k);rw[YU c f k,Int.mul_add]
def Ji(b:Bool):Int:=bif b then 1 else 0
theorem anj(p q:Bool):Ji (p&&q)=Ji p*Ji q:=by cases p<;>cases q<;>rfl
theorem L6{a b:Int}(h0:0<=a)(h1:a<=b):∀n:Nat,sumTo n (λ i=>Ji (decide (a<=(i:Int))&&decide ((i:Int)<b)))=max 0 (min b (n:Int) -a)
 | 0=>by show(0:Int)=_;omega
 |k+1=>by
  show sumTo k _+Ji (decide (a<=(k:Int))&&decide ((k:Int)<b))=_;rw[L6 h0 h1 k];by_cases c:a<=(k:Int)<;>by_cases d:(k:Int)<b<;>simp only[Ji,c,d,decide_true,decide_false,Bool.and_true,Bool.and_false,ai,ak]<;>omega
def EC:Nat:=1048576
def tC(p:Int->Int->Bool):Int:=sumTo EC λx=>sumTo EC λy=>Ji (p (x:Int) (y:Int))
def GK(r:ay):Int:=(r.x1 -r.x0)*(r.y1 -r.y0)
def Rf(l:List ay):Int:=(l.map GK).sum
def wW(r:ay)(x y:Int):Bool:=(decide (r.x0<=x)&&decide (x<r.x1))&&(decide (r.y0<=y)&&decide (y<r.y1))
theorem YV{r:ay}(h:cL r=true):tC (wW r)=GK r:=by
 simp only[cL,aD,aG]at h;have e:∀x:Nat,sumTo EC (λ y=>Ji (wW r (x:Int) (y:Int)))=Ji (decide (r.x0<=(x:Int))&&decide ((x:Int)<r.x1))*(r.y1 -r.y0):=by
  intro x;rw[sumTo_congr (g:=λy=>Ji (decide (r.x0<=(x:Int))&&decide ((x:Int)<r.x1))*Ji (decide (r.y0<=(y:Int))&&decide ((y:Int)<r.y1))) EC λy _=>by rw[wW,anj]];rw[YU,L6 (by omega) (by omega)];congr 1;have:(EC:Int)=1048576:=rfl;omega
 unfold tC;rw[sumTo_congr EC λx _=>e x,YT,L6 (by omega) (by omega)];unfold GK;congr 1;have:(EC:Int)=1048576:=rfl;omega
theorem ala{p q r:Int->Int->Bool}(h:∀x y,Ji (r x y)=Ji (p x y)+Ji (q x y)):tC r=tC p+tC q:=by
 unfold tC;rw[<- TL];refine sumTo_congr _ λx _=>?_;rw[<- TL];exact sumTo_congr _ λy _=>h x y
theorem ED{p q:Int->Int->Bool}(h:∀x y,p x y=q x y):tC p=tC q:=by
 have:p=q:=funext λx=>funext λy=>h x y;rw[this]
theorem Vj:tC (λ _ _=>false)=0:=by exact(sumTo_congr (g:=λ_=>0) EC λx _=>Pd EC).trans (Pd _)
theorem yV{r:ay}(h:cL r=true):0<=GK r/\GK r<=1099511627776:=by
 simp only[cL,aD,aG]at h;unfold GK;refine⟨Int.mul_nonneg (by omega) (by omega),?_⟩;have:=Int.mul_le_mul (show r.x1 -r.x0<=1048576 by omega) (show r.y1 -r.y0<=1048576 by omega) (by omega) (by omega);omega
theorem YW:∀{l:List ay},(∀ r∈l,cL r=true)->0<=Rf l/\Rf l<=1099511627776*(l.length:Int)
 |[],_=>by simp[Rf]
 |r::l,h=>by
  have h1:=yV (h r mem_cons_self);have h2:=YW (l:=l) λq hq=>h q (dD _ hq);have e:Rf (r::l)=GK r+Rf l:=rfl;rw[e,bH]
  push_cast
  omega
theorem acv:∀(l:List Int)(x:Int),(l++[x]).sum=l.sum+x
 |[],x=>by simp
 |a::l,x=>by rw[List.cons_append,List.sum_cons,List.sum_cons,acv l x];omega
theorem alb{r:ay}(h:cL r=true):IU r=some (GK r):=by
 have hb:=yV h;unfold IU A8;rw[nN,h];simp only[ah,ai];simp only[cL,aD,aG]at h;unfold GK at*;rw[cB (x:=r.x1 -r.x0),cB (x:=r.y1 -r.y0),cB (by omega) (by omega)]
theorem aid{a:List ay}(ha:a.length<=900)(hn:1000<=n):WH n a=some (bif cD a then Rf a else 0):=by
 unfold WH;rw[Ez (by omega) (by omega) hn];simp only[ah];cases hr:cD a with
 |false=>rfl
 |true=>
  have ok:=(vB hr).1;have:=jK (step:=IV a) (λ i=>(Rf (a.take i),(i:Int))) a.length (Rf a) (λ i hi=>?_) ?_ n (by omega)
  ·have e:Rf (a.take 0)=0:=rfl;rw[e,show((0:Nat):Int)=0 from rfl]at this;simp only[Bool.not_true,ak,ai,this,ah]
  ·have c:decide ((i:Int)<(a.length:Int))=true:=(by simpa using hi);have h1:=YW (l:=a.take i) λr hr=>ok r (List.mem_of_mem_take hr);rw[length_take]at h1;have h2:=yV (ok _ (getElem_mem hi));have e:Rf (a.take (i+1))=Rf (a.take i)+GK a[i]:=(by rw[dG hi];unfold Rf;rw[map_append];exact acv _ _);simp only[IV,c,ai,aZ hi,ah,alb (ok _ (getElem_mem hi))];rw[aO (by omega),cB (by omega) (by omega),e]
  ·simp[IV]
theorem af0{S:List bF}{t:List ay}(hS:qQ S)(ht:∀r∈t,cL r=true)(h1:∀x,Can (jD S x))(h2:∀x y,ej (jD S x) y=jF t x y):fI S=fI (dh t):=by
 refine aay hS (LZ t) λx=>?_;have⟨c1,c2⟩:=lG ht x;rw[Oe];exact Jf (h1 x) c1 λy=>by rw[h2,c2]
theorem aoJ(l:List ay):(kf l).1.length<=200:=by
 unfold kf;split
 ·split
  ·simp
  ·split
   ·simp
   ·show(fI (dh l)).length<=200;omega
 ·simp
abbrev sf(a b:ay):Bool:=decide (a.y0<b.y0)
theorem aj2:Go.Sort.SWO sf where
 irrefl x:=by simp[sf]
 trans x y z h1 h2:=by simp only[sf,aG]at *;omega
 ntrans x y z h1 h2:=by simp only[sf,dn]at *;omega
instance:Inhabited ay:=⟨ay.mk 0 0 0 0⟩
theorem alc(n:Nat)(rc:List ay->Int->Int->Int->((ay×ay×Unit)->Option Int)->Option (List ay))(φ:(ay×ay×Unit)->Option Int)(l:List ay)(a b d:Int):jh n rc l a b d φ=jc (λ x y=>φ (x,y,())) (λ r=>decide (r<0)) aY bg n (λ l a b d=>rc l a b d φ) l a b d:=by kernel_rfl
theorem acw(n:Nat)(φ:(ay×ay×Unit)->Option Int):∀m l a b d,eU n m l a b d φ=fT (λ x y=>φ (x,y,())) (λ r=>decide (r<0)) aY bg n m l a b d
 | 0,l,a,b,d=>rfl
 |m+1,l,a,b,d=>by
  have e:(λ l a b d=>eU n m l a b d φ)=fT (λ x y=>φ (x,y,())) (λ r=>decide (r<0)) aY bg n m:=by
   funext l a b d;exact acw n φ m l a b d
  show jh n (eU n m) l a b d φ=jc (λ x y=>φ (x,y,())) (λ r=>decide (r<0)) aY bg n (fT (λ x y=>φ (x,y,())) (λ r=>decide (r<0)) aY bg n m) l a b d;rw[<- e];exact alc n (eU n m) φ l a b d
theorem Ns{l:List ay}{φ:(ay×ay×Unit)->Option Int}(f:ay->ay->Int)(hφ:∀x y,φ (x,y,())=some (f x y))(hf:∀x y,decide (f x y<0)=sf x y)(hl:l.length<1099511627776)(hn:l.length<n):qa n l φ=some (wz sf l):=by
 unfold qa nG;rw[oh (by omega),yS (by omega)];simp only[ah,aB,ai,acw];rw[uI (lt:=sf) aj2 (f:=f) (q:=λr=>decide (r<0)) hφ hf HJ HI (by omega) hn hn];rfl
theorem YX(x0 x1:Int)(c:List aJ):(bU x0 x1 c).length=c.length:=by simp[bU]
structure apR(R:List bF):Prop where
 runs:Runs R
 len:R.length<=200
 col:∀s∈R,Can s.column/\∀q∈s.column,0<=q.from_/\q.from_<q.to/\q.to<=1048576
 xs:∀s∈R,0<=s.x0/\s.x0<s.x1/\s.x1<=1048576
 Tb:(R.flatMap λs=>s.column.map (·.from_)).length<=200
theorem af2(R:List bF):(lI R).length=(R.flatMap λs=>s.column.map (·.from_)).length:=by
 induction R with
 |nil=>rfl
 |cons s R ih=>
  have e:lI (s::R)=bU s.x0 s.x1 s.column++lI R:=rfl;rw[e,bW,ih,List.flatMap_cons,bW,YX,length_map]
theorem af3:∀{R:List bF},Runs R->R.length<=(lI R).length
 |[],_=>by simp
 |s::R,h=>by
  have hh:=jX h;have e:lI (s::R)=bU s.x0 s.x1 s.column++lI R:=rfl;have:=af3 (je h);have:=List.length_pos_iff.2 hh.2;rw[e,bW,YX,bH];omega
theorem aie{a:List ay}(h:cD a=true):apR (Od (dh a))/\lI (Od (dh a))=a/\∀x,jD (Od (dh a)) x=bR a x:=by
 have⟨hv,hl,hw⟩:=vB h;have⟨r1,r2⟩:=Cc (LZ a);rw[yU]at hw;have hc:∀x,jD (Od (dh a)) x=bR a x:=λx=>by rw[r2,Oe]
 have Ss:∀s∈Od (dh a),∀q∈s.column,cL ⟨s.x0,q.from_,s.x1,q.to⟩=true:=λs hs q hq=>hv _ (by rw[<- hw];exact Vh.2 ⟨s,hs,q,hq,rfl⟩);refine⟨⟨r1,?_,λs hs=>⟨?_,λq hq=>?_⟩,λs hs=>?_,?_⟩,hw,hc⟩
 ·have:=af3 r1;rw[hw]at this;omega
 ·have⟨m1,m2⟩:=EA r1 s hs;have:=m2 s.x0 (Int.le_refl _) m1;rw[hc]at this;rw[<- this];exact(lG hv s.x0).1
 ·have:=Ss s hs q hq;simp only[cL,aD,aG]at this;omega
 ·have⟨m1,m2⟩:=EA r1 s hs;have hne:s.column≠[]:=by
   intro e;have:=m2 s.x0 (Int.le_refl _) m1;have h3:∃i,∃hi:i<(Od (dh a)).length,(Od (dh a))[i]=s:=mem_iff_getElem.1 hs;have:∀{R:List bF},Runs R->∀s∈R,s.column≠[]:=by
    intro R
    induction R with
    |nil=>intro _ s hs;simp at hs
    |cons t R ih=>
     intro hR s hs;rcases aK.1 hs with rfl |hs
     ·exact(jX hR).2
     ·exact ih (je hR) s hs
   exact this r1 s hs e
  obtain⟨q,hq⟩:=List.exists_mem_of_ne_nil _ hne;have:=Ss s hs q hq;simp only[cL,aD,aG]at this;omega
 ·rw[<- af2,hw];exact hl
theorem acy:∀{R:List bF},Runs R->R.Pairwise (λ s t=>s.x1<=t.x0)
 |[],_=>List.Pairwise.nil
 |[s],_=>by simp
 |s::t::R,h=>by
  have ih:=acy (je h);refine pairwise_cons.2 ⟨λ u hu=>?_,ih⟩;rcases aK.1 hu with rfl |hu
  ·exact h.2.1
  ·have:=(pairwise_cons.1 ih).1 u hu;have:=(jX (je h)).1;have:=h.2.1;omega
def TM(a b:ay):Int:=bif(!cL a || !cL b)then -1 else max (max 0 (i64.wrap ((max a.x0 b.x0) -(min a.x1 b.x1)))) (i64.wrap ((max a.y0 b.y0) -(min a.y1 b.y1)))
theorem ank(a b:ay):Hk a b=some (TM a b):=by
 unfold Hk TM;rw[nN,nN];simp only[ah];cases cL a<;>cases cL b<;>rfl
def Nt(a b:List ay):Int×Bool:=
 bif(decide (a=[]) || (decide (b=[]) || (!cD a || !cD b)))then(0,false)else(a.foldl (λ m x=>b.foldl (λ m y=>min m (TM x y)) m) 1048576,true)
theorem aaA{b:List ay}(hb:b.length<1099511627776)(hn:b.length<n)(x:ay)(m:Int):iter (Gu b x) n (m,(0:Int))=some (b.foldl (λ m y=>min m (TM x y)) m):=by
 have:=kR (l:=b) (step:=Gu b x) (λ i (s:Int)=>(s,(i:Int))) (λ y m=>min m (TM x y)) (λ s=>s) (λ i hi s=>?_) (λ s=>by simp[Gu]) n hn m
 ·exact this
 ·have hi':decide ((i:Int)<(b.length:Int))=true:=by simpa using hi
  simp only[Gu,hi',ai,aZ hi,ah,ank];rw[aO (by omega)]
theorem ald{a b:List ay}(ha:a.length<=900)(hb:b.length<=900)(hn:1000<=n):YN n a b=some (Nt a b):=by
 unfold YN Nt;have z:∀l:List ay,(((l.length:Int))==0)=decide (l=[]):=λl=>by cases l<;>simp<;>omega
 rw[z a,z b,Ez (by omega) (by omega) hn,Ez (by omega) (by omega) hn];have loop:(iter (Gv n a b) n ((1048576:Int),(0:Int)))=some (a.foldl (λ m x=>b.foldl (λ m y=>min m (TM x y)) m) 1048576):=by
  have:=kR (l:=a) (step:=Gv n a b) (λ i (s:Int)=>(s,(i:Int))) (λ x m=>b.foldl (λ m y=>min m (TM x y)) m) (λ s=>s) (λ i hi s=>?_) (λ s=>by simp[Gv]) n (by omega) 1048576
  ·exact this
  ·have hi':decide ((i:Int)<(a.length:Int))=true:=(by simpa using hi);simp only[Gv,hi',ai,aZ hi,ah];rw[aaA (by omega) (by omega),ah,aO (by omega)]
 simp only[ah,loop];cases decide (a=[])<;>cases decide (b=[])<;>cases cD a<;>cases cD b<;>rfl
def F2:fU:=fU.mk 0 0 [] []
def cu(land:List fU)(id:Int):fU×Bool:=match land.find? λt=>t.id==id with
 |some t=>(t,true)
 |none=>(F2,false)
theorem YZ{α:Type}(p:α->Bool)(l:List α):(∃ (i:Nat) (h:i<l.length),kK p l=some i/\l.find? p=some l[i])\/(kK p l=none/\l.find? p=none):=by
 rcases wN p l with ⟨i,hi,h1,h2,h3⟩ |⟨h1,h2⟩
 ·refine .inl ⟨i,hi,h1,?_⟩;rw[List.find?_eq_some_iff_getElem];exact⟨h2,i,hi,rfl,λj hj=>by simpa using h3 j hj⟩
 ·refine .inr ⟨h1,?_⟩;rw[List.find?_eq_none];intro x hx;rw[h2 x hx];simp
def zC(t:fU)(id d:Int)(u:fU):Bool:=(Nt t.area u.area).2&&(decide ((Nt t.area u.area).1<=d)&&(u.id !=id))
def lK(land:List fU)(t:fU)(id d:Int):List Int:=(land.filter λu=>zC t id d u).map (·.id)
def Oh(land:List fU)(id d:Int):List Int:=
 bif(cu land id).2 then uF (lK land (cu land id).1 id d)else []
theorem Y0{land:List fU}(hl:land.length<10995116277)(hn:land.length<n):iter (BM land) n ((0:Int),([]:List (List ay)))=some (land.map (·.area)):=by
 have:=jK (step:=BM land) (λ i=>((i:Int),(land.take i).map (·.area))) land.length (land.map (·.area)) (λ i hi=>?_) ?_ n hn
 ·simpa using this
 ·have hi':decide ((i:Int)<(land.length:Int))=true:=by simpa using hi
  have ap:bD ((land.take i).map (·.area)).length ((land.take i).map (·.area)).length (sub ([land[i].area]:List (List ay)) 0 1).length 1 24=true:=by
   refine bB (n:=1) ?_ ?_
   ·rw[length_map,length_take];omega
   ·rw[length_map,length_take];simp only[maxLen];omega
  simp only[BM,hi',ai,aZ hi,ah,ap,dH,aB];rw[aO (by omega),dG hi,map_append];rfl
 ·simp[BM]
theorem aaB{land:List fU}(h:∀t∈land,t.area.length<=900)(id:Int):(cu land id).1.area.length<=900:=by
 unfold cu;split
 ·rename_i t ht;exact h t (List.mem_of_find?_eq_some ht)
 ·simp[F2]
theorem aif{land:List fU}{id d:Int}(h:∀t∈land,t.area.length<=900)(hF:MW n land id=some (cu land id))(hl:land.length<=100)(hn:1000<=n):WI n land id d=some (Oh land id d):=by
 unfold WI Oh;rw[hF];simp only[ah];cases hf:(cu land id).2 with
 |false=>rfl
 |true=>
  have ht:=aaB h id;simp only[Bool.not_true,ak,length_nil,aB,ai,Y0 (land:=land) (n:=n) (by omega) (by omega),ah];have key:iter (BN n land id d (cu land id) (land.map (·.area))) n ((0:Int),([]:List Int))=some (lK land (cu land id).1 id d):=by
   have:=j6 (l:=land) (step:=BN n land id d (cu land id) (land.map (·.area))) (λ i (s:List Int)=>((i:Int),s)) (λ u s=>bif zC (cu land id).1 id d u then s++[u.id]else s) (λ s=>s) (λ i s=>s.length<=i)
    (λ i hi s hs=>?_) (λ s hs=>by simp[BN]) n (by omega) [] (aT _)
   ·rw[show ((0:Nat):Int)=0 from rfl]at this;rw[this];have gen:∀(ys:List fU) (s:List Int),ys.foldl (λ s u=>bif zC (cu land id).1 id d u then s++[u.id]else s) s=s++lK ys (cu land id).1 id d:=by
     intro ys
     induction ys with
     |nil=>intro s;simp[lK]
     |cons y ys ih=>
      intro s;simp only[foldl_cons,ih,lK];cases hy:zC (cu land id).1 id d y<;>simp[hy]
    rw[gen];simp
   ·have hlm:(land.map (·.area)).length=land.length:=(by simp);have hi':decide ((i:Int)<(((land.map (·.area)).length:Nat):Int))=true:=(by rw[hlm];simpa using hi);have ib:br (i:Int) (land.map (·.area)).length=true:=bS (by omega);have g:bh (land.map (·.area)) (((0:Nat):Int)+(i:Int))=some land[i].area:=(by rw[iT];simp[hi]);have hu:=h _ (getElem_mem hi);have ap:bD s.length s.length (sub ([land[i].id]:List Int) 0 1).length 1 8=true:=bB (n:=1);have gp:YN n (cu land id).1.area land[i].area=some (Nt (cu land id).1.area land[i].area):=ald ht hu hn;simp only[BN,hi',ai,ib,g,ah,gp,aZ hi];have e:((bif (Nt (cu land id).1.area land[i].area).2 then(bif (decide ((Nt (cu land id).1.area land[i].area).1<=d))then some (land[i].id !=id)else some false)else some false):Option Bool)=some (zC (cu land id).1 id d land[i]):=by
     unfold zC;cases (Nt (cu land id).1.area land[i].area).2<;>cases decide ((Nt (cu land id).1.area land[i].area).1<=d)<;>rfl
    rw[e];simp only[ah];cases zC (cu land id).1 id d land[i]with
    |true=>
     simp only[ai,ap,dH,aB,ah];refine⟨?_,by simp;omega⟩;rw[aO (by omega)];rfl
    |false=>
     simp only[ak,aB,ai,ah];exact⟨by rw[aO (by omega)],by omega⟩
  have hlen:(lK land (cu land id).1 id d).length<=100:=by
   unfold lK;rw[length_map];exact Nat.le_trans (List.length_filter_le _ _) hl
  rw[key];simp only[ah,aB,ai];rw[Ca (by omega) (by omega)];simp only[ah,gB,aB,ai];rw[Ey (by rw[gB];omega) (by rw[gB];omega)];simp only[ah,bG,aB,ai];rfl
def anl:List ByteArray:=[⟨#[104,111,109,101]⟩,⟨#[115,104,111,112]⟩,⟨#[119,111,114,107]⟩,⟨#[112,97,114,107]⟩,⟨#[112,108,97,110,116]⟩,⟨#[104,97,108,108]⟩]
def nameOf(use:Int):Option ByteArray:=bh anl use
theorem Vk(l:List Int):(uF l).length<=l.length:=by
 unfold uF;have:=nX (mH (λ a b=>decide (a<b)) l)
 rwa [gB]at this
theorem Rh{V O:Type}{step:V->Option (V⊕O)}(R:Nat->V->Prop)(N:Nat)(Q:O->Prop)(h:∀i v,i<N->R i v->∃v',step v=some (.inl v')/\R (i+1) v')(hN:∀v,R N v->∃o,step v=some (.inr o)/\Q o):
 ∀n,N<n->∀v,R 0 v->∃o,iter step n v=some o/\Q o:=by
 have main:∀k i n v,i+k=N->k<n->R i v->∃o,iter step n v=some o/\Q o:=by
  intro k
  induction k with
  |zero=>
   intro i n v hi hn hR;obtain⟨m,rfl⟩:∃m,n=m+1:=⟨n -1,by omega⟩;have:i=N:=(by omega);subst this;have⟨o,h1,h2⟩:=hN v hR;exact⟨o,bn h1,h2⟩
  |succ k ih=>
   intro i n v hi hn hR;obtain⟨m,rfl⟩:∃m,n=m+1:=⟨n -1,by omega⟩;obtain⟨v',h1,h2⟩:=h i v (by omega) hR;obtain⟨o,h3,h4⟩:=ih (i+1) m v' (by omega) (by omega) h2;exact⟨o,by rw[dw h1,h3],h4⟩
 intro n hn v hR;exact main N 0 n v (by omega) hn hR
def oM(a b:ay):ay:=⟨max a.x0 b.x0,max a.y0 b.y0,min a.x1 b.x1,min a.y1 b.y1⟩
theorem Ri(a:ay):A8 a=some (bif cL a then(a,true)else(⟨0,0,0,0⟩,false)):=by
 unfold A8;rw[nN];simp only[ah,sk]
theorem Y1(a b:ay):Eg a b=some (bif cL a&&(cL b&&cL (oM a b))then(oM a b,true)else(⟨0,0,0,0⟩,false)):=by
 unfold Eg;rw[nN,nN];simp only[ah,sk];rw[show ay.mk (max a.x0 b.x0) (max a.y0 b.y0) (min a.x1 b.x1) (min a.y1 b.y1)=oM a b from rfl,Ri];simp only[ah];generalize cL (oM a b)=c;cases cL a<;>cases cL b<;>cases c<;>rfl
def JX(r:ay):Int:=i64.wrap (i64.wrap (r.x1 -r.x0)*i64.wrap (r.y1 -r.y0))
theorem TN{r:ay}(h:cL r=true):IU r=some (JX r):=by
 unfold IU;rw[Ri,h];rfl
def sR(x:ay)(n:Int)(y:ay):Int:=bif cL x&&(cL y&&cL (oM x y))then i64.wrap (n+JX (oM x y))else n
def Iv(a b:ByteArray):Bool:=ByteArray.toList a==ByteArray.toList b
abbrev apS(r:dL):Prop:=r.zones.length<=100/\r.except.length<=100
theorem vC(r:ay)(x y:Int):wW r x y=true↔(r.x0<=x/\x<r.x1)/\(r.y0<=y/\y<r.y1):=by simp only[wW,aD,aG]
def ApR(a b:ay):Prop:=∀x y,wW a x y=true->wW b x y=true->False
def T4(l:List ay):Prop:=l.Pairwise ApR/\∀r∈l,cL r=true
theorem Pe(l:List ay)(x y:Int):jF l x y=true↔∃r∈l,wW r x y=true:=by simp[jF,wW]
theorem sO(r:ay):cL r=true↔(0<=r.x0/\r.x0<r.x1/\r.x1<=1048576)/\(0<=r.y0/\r.y0<r.y1/\r.y1<=1048576):=by simp only[cL,aD,aG];omega
theorem Y2{a:List ay}(h:cD a=true):T4 a:=by
 have⟨Sf,hro,_⟩:=aie h;refine⟨?_,(vB h).1⟩;rw[<- hro];unfold lI;rw[List.pairwise_flatMap];refine⟨λ s hs=>?_,(acy Sf.runs).imp λ{s t} hst=>?_⟩
 ·unfold bU;rw[List.pairwise_map];refine(Sf.col s hs).1.1.imp λ{p q} hpq x y h1 h2=>?_;rw[vC]at h1 h2;simp only at h1 h2;omega
 ·intro p hp q hq x y h1 h2;unfold bU at hp hq;obtain⟨p',_,rfl⟩:=mem_map.1 hp;obtain⟨q',_,rfl⟩:=mem_map.1 hq;rw[vC]at h1 h2;simp only at h1 h2;omega
theorem anm(a b:ay)(x y:Int):wW (oM a b) x y=(wW a x y&&wW b x y):=by
 rw[eu,aD,vC,vC,vC];unfold oM;simp only;omega
def four(r m:ay):List ay:=[⟨r.x0,r.y0,m.x0,r.y1⟩,⟨m.x1,r.y0,r.x1,r.y1⟩,⟨m.x0,r.y0,m.x1,m.y0⟩,⟨m.x0,m.y1,m.x1,r.y1⟩]
abbrev sL(t:fU):Prop:=t.area.length<=900/\t.from_.length*8<=140737488355328
theorem aii{t:fU}(h:sL t):QM t=some t:=by
 unfold QM;have h2:=h.2;rw[TB (by omega),ah,show nC t.from_=some t.from_ from yB (b:=8) (by omega) (by simp only[maxLen];omega),ah];simp only[bG,aB,ai]
theorem ale{land:List fU}{id:Int}(h:∀t∈land,sL t)(hl:land.length<1099511627776)(hn:land.length<n):MW n land id=some (cu land id):=by
 unfold MW;have:=iK (l:=land) (step:=IK land id) (λ i=>(i:Int)) (λ t=>t.id==id) () (λ i=>(land.getD i F2,true)) (λ i hi=>?_) ?_ n hn
 ·rw[show ((0:Nat):Int)=0 from rfl]at this;rw[this];unfold cu;rcases YZ (λ t:fU=>t.id==id) land with ⟨i,hi,h1,h2⟩ |⟨h1,h2⟩
  ·rw[h1,h2];simp[hi]
  ·rw[h1,h2];rfl
 ·simp only[IK,dm hi,ai,aZ hi,ah,aii (h _ (getElem_mem hi))];cases land[i].id==id with
  |true=>simp[hi]
  |false=>simp only[ak];rw[aO (by omega)]
 ·simp[IK]
theorem Na{land:List fU}(h:∀t∈land,sL t)(id:Int):sL (cu land id).1:=by
 unfold cu;split
 ·rename_i t ht;exact h t (List.mem_of_find?_eq_some ht)
 ·simp[sL,F2]
structure aqC(t:gU):Prop where
 rules:t.bp.length<=20
 Ix:∀r∈t.bp,apS r
 zones:t.b9.length<=20
 land:t.land.length<=20
 lots:∀l∈t.land,sL l
 cz:t.cz.length<=5
 Ts:∀e∈t.cz,e.area.length<=10
structure aqX(X Y:List Int)(es:List MV):Prop where
 ok:∀e∈es,cD e.area=true
 x0:∀e∈es,∀c∈e.area,c.x0∈X
 x1:∀e∈es,∀c∈e.area,c.x1∈X
 y1:∀e∈es,∀c∈e.area,c.y1∈Y
 len:∀e∈es,e.area.length<=200
 size:X.length*Y.length<=200000
abbrev TP(t:gU):Prop:=∀l∈t.land,l.from_.length*8<=140737488355328
theorem fV{α W O:Type}{l:List α}{step:Int->Option (Int⊕(W⊕O))}(p:α->Bool)(w:W)(o:O)
 (h:∀i (hi:i<l.length),step (i:Int)=some (bif p l[i]then .inr (.inr o)else .inl ((i+1:Nat):Int)))
 (hend:step (l.length:Int)=some (.inr (.inl w))) (n:Nat) (hn:l.length<n):iter step n (0:Int)=some (bif l.any p then .inr o else .inl w):=by
 have:=iK (l:=l) (step:=step) (λ i=>(i:Int)) p w (λ _=>o) h hend n hn;rw[show ((0:Nat):Int)=0 from rfl]at this;rw[this,<- jf];cases kK p l<;>rfl
def yl(t:gU):Bool:=
 (decide (t.bp.length<=10)&&(decide (t.b9.length<=6)&&(decide (t.cy.length<=20)&&(decide (t.bu.length<=20)&&(decide (t.land.length<=5)&&(decide (t.cz.length<=5)&&decide (t.built.length<=6)))))))&&
 (!(t.bp.any λr=>decide (r.zones.length>5) || decide (r.except.length>5))&&(!(t.land.any λl=>decide (l.area.length>10))&&!(t.cz.any λe=>decide (e.area.length>10))))
theorem aqD{a b:Nat}:decide ((a:Int)>(b:Int))=!decide (a<=b):=by
 by_cases h:a<=b
 ·have:¬((a:Int)>(b:Int)):=by omega
  simp[h,this]
 ·have:(a:Int)>(b:Int):=by omega
  simp only[this,h,decide_true,decide_false,Bool.not_false]
theorem aik(t:gU)(hn:2000<=n):WJ n t=some (yl t):=by
 unfold WJ yl;simp only[show (10:Int)=((10:Nat):Int)from rfl,show(6:Int)=((6:Nat):Int)from rfl,show(20:Int)=((20:Nat):Int)from rfl,show(5:Int)=((5:Nat):Int)from rfl,aqD,sk,ah];cases hA:(decide (t.bp.length<=10)&&(decide (t.b9.length<=6)&&(decide (t.cy.length<=20)&&(decide (t.bu.length<=20)&&(decide (t.land.length<=5)&&(decide (t.cz.length<=5)&&decide (t.built.length<=6)))))))with
 |false=>
  have e:(bif !decide (t.bp.length<=10)then true else bif !decide (t.b9.length<=6)then true else bif !decide (t.cy.length<=20)then true else bif !decide (t.bu.length<=20)then true else bif !decide (t.land.length<=5)then true else bif !decide (t.cz.length<=5)then true else !decide (t.built.length<=6))=true:=by
   revert hA;cases decide (t.bp.length<=10)<;>cases decide (t.b9.length<=6)<;>cases decide (t.cy.length<=20)<;>cases decide (t.bu.length<=20)<;>cases decide (t.land.length<=5)<;>cases decide (t.cz.length<=5)<;>cases decide (t.built.length<=6)<;>simp
  rw[e];rfl
 |true=>
  have e:(bif !decide (t.bp.length<=10)then true else bif !decide (t.b9.length<=6)then true else bif !decide (t.cy.length<=20)then true else bif !decide (t.bu.length<=20)then true else bif !decide (t.land.length<=5)then true else bif !decide (t.cz.length<=5)then true else !decide (t.built.length<=6))=false:=by
   revert hA;cases decide (t.bp.length<=10)<;>cases decide (t.b9.length<=6)<;>cases decide (t.cy.length<=20)<;>cases decide (t.bu.length<=20)<;>cases decide (t.land.length<=5)<;>cases decide (t.cz.length<=5)<;>cases decide (t.built.length<=6)<;>simp
  simp only[aD,aG]at hA;rw[e];simp only[ak,Bool.true_and];rw[fV (l:=t.bp) (λ r=>decide (r.zones.length>5) || decide (r.except.length>5)) () false (λ i hi=>?_) (by simp[O4]) n (by omega)]
  ·cases (t.bp.any λr=>decide (r.zones.length>5) || decide (r.except.length>5))with
   |true=>rfl
   |false=>
    simp only[ak,fB];rw[fV (l:=t.land) (λ l=>decide (l.area.length>10)) () false (λ i hi=>?_) (by simp[O5]) n (by omega)]
    ·cases (t.land.any λl=>decide (l.area.length>10))with
     |true=>rfl
     |false=>
      simp only[ak,fB];rw[fV (l:=t.cz) (λ e=>decide (e.area.length>10)) () false (λ i hi=>?_) (by simp[O6]) n (by omega)]
      ·cases (t.cz.any λe=>decide (e.area.length>10))<;>rfl
      ·have d:decide ((((t.cz[i]).area.length:Nat):Int)>10)=decide ((t.cz[i]).area.length>10):=(by rw[eu,aG,aG];omega);simp only[O6,dm hi,ai,aZ hi,ah,d,Option.map_some,sk,aR i]
    ·have d:decide ((((t.land[i]).area.length:Nat):Int)>10)=decide ((t.land[i]).area.length>10):=(by rw[eu,aG,aG];omega);simp only[O5,dm hi,ai,aZ hi,ah,d,Option.map_some,sk,aR i]
  ·have d1:decide ((((t.bp[i]).zones.length:Nat):Int)>5)=decide ((t.bp[i]).zones.length>5):=(by rw[eu,aG,aG];omega);have d2:decide ((((t.bp[i]).except.length:Nat):Int)>5)=decide ((t.bp[i]).except.length>5):=(by rw[eu,aG,aG];omega);simp only[O4,dm hi,ai,aZ hi,ah,d1,d2,Option.map_some,sk,aR i];cases decide ((t.bp[i]).zones.length>5)<;>cases decide ((t.bp[i]).except.length>5)<;>rfl
theorem aj3{t:gU}(h:yl t=true)(hf:TP t):aqC t:=by
 unfold yl at h;simp only[aD,aG,Bool.not_eq_true',List.any_eq_false,Bool.or_eq_true,not_or]at h;obtain⟨⟨h1,h2,h3,h4,h5,h6,h7⟩,g1,g2,g3⟩:=h;refine⟨by omega,λr hr=>?_,by omega,by omega,λl hl=>?_,by omega,λe he=>?_⟩
 ·have:=g1 r hr;exact⟨by omega,by omega⟩
 ·have:=g2 l hl;exact⟨by omega,hf l hl⟩
 ·have:=g3 e he;omega
theorem Y3{aa:List Int}(h:aa.Pairwise (· < ·)){i j:Nat}(hij:i<j)(hj:j<aa.length):aa[i]'(by omega)<aa[j]:=
 (List.pairwise_iff_getElem.1 h) i j _ hj hij
theorem Y4{aa:List Int}(h:aa.Pairwise (· < ·)){k:Nat}(hk:k<=aa.length){x:Int}(h1:∀j (hj:j<aa.length),k<=j->x<aa[j])(h2:∀h0:0<k,aa[k -1]'(by omega)<x):
 (aa.take k++x::aa.drop k).Pairwise (· < ·):=by
 have low:∀a∈aa.take k,a<x:=by
  intro a ha;obtain⟨j,hj,rfl⟩:=List.getElem_of_mem ha;rw[length_take]at hj;rw[List.getElem_take];have h3:=h2 (by omega);by_cases e:j=k -1
  ·subst e;exact h3
  ·have:=Y3 h (show j<k -1 by omega) (by omega);omega
 have high:∀b∈aa.drop k,x<b:=by
  intro b hb;obtain⟨j,hj,rfl⟩:=List.getElem_of_mem hb;rw[length_drop]at hj;rw[getElem_drop];exact h1 _ (by omega) (by omega)
 rw[pairwise_append,pairwise_cons];refine⟨h.sublist (List.take_sublist _ _),⟨high,h.sublist (List.drop_sublist _ _)⟩,λa ha b hb=>?_⟩;rcases aK.1 hb with rfl |hb
 ·exact low a ha
 ·have:=low a ha;have:=high b hb;omega
theorem aj4{α:Type}{aa:List α}{k:Nat}{x z:α}:z∈aa.take k++x::aa.drop k↔z∈aa\/z=x:=by
 conv=>rhs;rw[<- List.take_append_drop k aa]
 simp only[bf,aK];exact⟨λ h=>by rcases h with h |h |h<;>simp[h],λh=>by rcases h with (h |h) |h<;>simp[h]⟩
theorem EF{l aa:List Int}{i:Nat}(hi:i<l.length)(ho:aa.length<1099511627776):∀(m:Nat),m<=aa.length->(∀ j (h:j<aa.length),m<=j->l[i] <aa[j])->∀n,m<n->
 ∃k,k<=m/\iter (ou l (i:Int) aa) n (m:Int)=some (k:Int)/\(∀ j (h:j<aa.length),k<=j->l[i] <aa[j])/\(∀ h:0<k,∀h':k -1<aa.length,aa[k -1]<=l[i])
 | 0,_,h,n,hn=>by
  obtain⟨k,rfl⟩:∃k,n=k+1:=⟨n -1,by omega⟩;exact⟨0,aT _,bn (by simp[ou]),h,λh=>by omega⟩
 |m+1,hm,h,n,hn=>by
  obtain⟨k,rfl⟩:∃k,n=k+1:=⟨n -1,by omega⟩;have d:decide (((m+1:Nat):Int)>0)=true:=by simp<;>omega
  have wp:i64.wrap (((m+1:Nat):Int) -1)=(m:Int):=by rw[iJ (by omega) (by omega)];rfl
  have ib:br (m:Int) aa.length=true:=bS (by omega);have step:ou l (i:Int) aa (((m+1:Nat)):Int)=some (bif decide (aa[m]'(by omega)>l[i])then .inl (m:Int)else .inr (((m+1:Nat)):Int)):=by
   simp only[ou,d,ai,wp,ib,eY (show m<aa.length by omega),aZ hi,ah];cases decide (aa[m]'(by omega)>l[i])<;>rfl
  by_cases hg:aa[m]'(by omega)>l[i]
  ·have s8:ou l (i:Int) aa (((m+1:Nat)):Int)=some (.inl (m:Int)):=(by rw[step];simp only[hg,decide_true,ai]);rw[dw s8];obtain⟨q,h1,h2,h3,h4⟩:=EF hi ho m (by omega) (λ j hj hmj=>by
    by_cases e:j=m
    ·subst e;exact hg
    ·exact h j hj (by omega)) k (by omega)
   exact⟨q,by omega,h2,h3,h4⟩
  ·exact⟨m+1,aT _,bn (by rw[step];simp only[hg,decide_false,ak]),h,λ_ _=>by simpa using hg⟩
theorem EG{aa:List Int}{k:Nat}(hk:k<=aa.length)(ho:aa.length<1099511627776)(r:List Int)(hr:r.length=aa.length+1):∀(m:Nat)(z:Int),k<=m->m<=aa.length->∀n,m -k<n->
 ∃z',iter (ow (k:Int) r) n ((m:Int),aa.take m++z::aa.drop m)=some (aa.take k++z'::aa.drop k)
 | 0,z,h1,_,n,hn=>by
  obtain⟨j,rfl⟩:∃k,n=k+1:=⟨n -1,by omega⟩;have:k=0:=by omega
  subst this;exact⟨z,bn (by simp[ow])⟩
 |m+1,z,h1,h2,n,hn=>by
  obtain⟨j,rfl⟩:∃k,n=k+1:=⟨n -1,by omega⟩;by_cases e:k=m+1
  ·subst e;exact⟨z,bn (by simp[ow])⟩
  ·have d:decide (((m+1:Nat):Int)>(k:Int))=true:=(by simp;omega);have wp:i64.wrap (((m+1:Nat):Int) -1)=(m:Int):=(by rw[iJ (by omega) (by omega)];rfl);have ib:br (m:Int) r.length=true:=bS (by omega);have vp:br ((m+1:Nat):Int) r.length=true:=bS (by omega);have lt:(aa.take (m+1)).length=m+1:=(by rw[length_take];omega);have g1:bh (aa.take (m+1)++z::aa.drop (m+1)) (((0:Nat):Int)+(m:Int))=some (aa[m]'(by omega)):=(by rw[iT,List.getElem?_append_left (by omega),List.getElem?_take,aP (by omega),dI (by omega)]);have g2:bh (aa.take (m+1)++z::aa.drop (m+1)) (((0:Nat):Int)+((m+1:Nat):Int))=some z:=(by rw[iT,fO (by omega),lt];simp);have e2:(((0:Nat):Int)+((m+1:Nat):Int)).toNat=m+1:=(by simp);have st:(aa.take (m+1)++z::aa.drop (m+1)).set (m+1) (aa[m]'(by omega))=aa.take m++(aa[m]'(by omega))::aa.drop m:=by
    rw[set_append_right _ _ (by omega),lt];simp only[Nat.sub_self,List.set_cons_zero];rw[dG (by omega),aN,drop_eq_getElem_cons (show m<aa.length by omega)];rfl
   have step:ow (k:Int) r (((m+1:Nat):Int),aa.take (m+1)++z::aa.drop (m+1))=some (.inl ((m:Int),aa.take m++(aa[m]'(by omega))::aa.drop m)):=(by simp only[ow,d,ai,wp,ib,vp,g1,g2,ah,e2,st]);rw[dw step];exact EG hk ho r hr m _ (by omega) (by omega) j (by omega)
theorem aaE{l:List Int}(hl:l.length<10995116277)(hn:l.length+1<n):I6 n l=some (uF l):=by
 unfold I6;have IS:∀m:List Int,(uF m).length<=m.length:=λm=>by
  have:=nX (mH (λ a b=>decide (a<b)) m);rw[gB]at this;exact this
 have key:iter (rP n l) n ((0:Int),([]:List Int))=some (uF l):=by
  have:=jK (step:=rP n l) (λ i=>((i:Int),uF (l.take i))) l.length (uF l) (λ i hi=>?_) ?_ n (by omega)
  ·simpa[uF,mH,gP]using this
  ·have hi':decide ((i:Int)<(l.length:Int))=true:=(by simpa using hi);have hs:=o7 (l.take i);have hm:∀z,z∈uF (l.take i)↔z∈l.take i:=BD _;have ho:=IS (l.take i);rw[length_take]at ho;generalize uF (l.take i)=aa at hs hm ho;have uq:∀m:List Int,m.Pairwise (· < ·)->(∀ z,z∈m↔z∈aa\/z=l[i])->m=uF (l.take (i+1)):=by
    intro m h1 h2;refine Lh h1 λz=>?_;rw[h2,hm,dG hi,bf,aW]
   obtain⟨k,k1,k2,k3,k4⟩:=EF hi (aa:=aa) (by omega) aa.length (aT _) (λ j h1 h2=>by omega) n (by omega);simp only[rP,hi',ai,k2,ah];have wk:∀h0:0<k,i64.wrap ((k:Int) -1)=((k -1:Nat):Int):=λh0=>iJ h0 (by omega);have test:((bif (decide ((k:Int)>(0:Int)))then(ck (br (i64.wrap ((k:Int) -1)) aa.length) ((bh aa ((0:Nat)+(i64.wrap ((k:Int) -1)):Int)).bind λx3=>(some l[i]:Option Int).bind λx4=>some (x3==(x4:Int))))else some false):Option (Bool))=some (if h0:0<k then decide (aa[k -1]'(by omega)=l[i])else false):=by
    by_cases h0:0<k
    ·have d:decide ((k:Int)>0)=true:=(by simp;omega);rw[d,wk h0];simp only[ai,bS (show k -1<aa.length by omega),eY (show k -1<aa.length by omega),ah,h0,dite_true];rfl
    ·have d:decide ((k:Int)>0)=false:=(by simp;omega);simp only[d,ak,h0,dite_false]
   simp only[aZ hi];rw[test];simp only[ah];by_cases hx:∃h0:0<k,aa[k -1]'(by omega)=l[i]
   ·obtain⟨h0,hx⟩:=hx;simp only[h0,dite_true,hx,decide_true,ai,aB,ah];rw[aO (by omega),<- uq aa hs (λ z=>⟨λ h=> .inl h,λh=>by
     rcases h with h |rfl
     ·exact h
     ·rw[<- hx];exact getElem_mem _⟩)]
   ·have f:(if h0:0<k then decide (aa[k -1]'(by omega)=l[i])else false)=false:=by
     split
     ·rename_i h0;simp only[dn];exact λe=>hx ⟨h0,e⟩
     ·rfl
    rw[f];have ap:bD aa.length aa.length (sub ([0]:List Int) 0 1).length 1 8=true:=bB (n:=1);have s1:aa++(sub ([0]:List Int) 0 1)=aa++[0]:=rfl;have lr:(aa++([0]:List Int)).length=aa.length+1:=(by simp);have wl:i64.wrap (((aa.length+1:Nat):Int) -1)=(aa.length:Int):=(by rw[iJ (by omega) (by omega)];rfl);obtain⟨z,hz⟩:=EG (k:=k) k1 (by omega) (aa++[0]) lr aa.length 0 k1 (aT _) n (by omega);rw[List.take_length,List.drop_length]at hz;have lt:(aa.take k).length=k:=(by rw[length_take];omega);have g1:bh (aa.take k++z::aa.drop k) (((0:Nat):Int)+(k:Int))=some z:=(by rw[iT,fO (by omega),lt];simp);have e2:(((0:Nat):Int)+(k:Int)).toNat=k:=(by simp);have st:(aa.take k++z::aa.drop k).set k l[i]=aa.take k++l[i]::aa.drop k:=(by rw[set_append_right _ _ (by omega),lt];simp);have le:(aa.take k++l[i]::aa.drop k).length=aa.length+1:=(by rw[bW,bH,length_take,length_drop];omega);simp only[ak,ap,ai,dH,s1,lr,wl,hz,ah,bS (show k<aa.length+1 by omega),g1,e2,st,le,aB];rw[aO (by omega),<- uq (aa.take k++l[i]::aa.drop k) (Y4 hs k1 k3 (λ h0=>by
     have h5:=k4 h0 (by omega);by_cases e:aa[k -1]'(by omega)=l[i]
     ·exact absurd ⟨h0,e⟩ hx
     ·omega)) (λ z=>aj4)]
  ·have d:decide ((l.length:Int)<(l.length:Int))=false:=(by simp);simp only[rP,d,ak,List.take_length,aB,ai]
 rw[key];simp only[length_nil,aB,ai,ah,bG]
theorem TQ{l:List ay}(hl:l.length<10995116277)(hn:l.length<n):iter (vg l) n ((0:Int),([]:List Int))=some (l.flatMap λr=>[r.x0,r.x1]):=by
 have:=j6 (l:=l) (step:=vg l) (λ i (s:List Int)=>((i:Int),s)) (λ r s=>s++[r.x0,r.x1]) (λ s=>s) (λ i s=>s.length<=2*i)
  (λ i hi s hs=>?_) (λ s hs=>by simp[vg]) n hn [] (aT _)
 ·rw[show ((0:Nat):Int)=0 from rfl]at this;rw[this];have gen:∀(ys:List ay)(s:List Int),ys.foldl (λ s r=>s++[r.x0,r.x1]) s=s++ys.flatMap λr=>[r.x0,r.x1]:=by
   intro ys
   induction ys with
   |nil=>intro s;simp
   |cons y ys ih=>intro s;simp[ih]
  congr 1;simpa using gen l []
 ·have hi':decide ((i:Int)<(l.length:Int))=true:=by simpa using hi
  have ap:bD s.length s.length (sub ([l[i].x0,l[i].x1]:List Int) 0 2).length 2 8=true:=bB (n:=2);simp only[vg,hi',ai,aZ hi,ah,ap,dH,aB];refine⟨?_,by simp;omega⟩;rw[aO (by omega)];rfl
def cK(c:List aJ):List Int:=c.flatMap λq=>[q.from_,q.to]
theorem jY(l:List aJ):(cK l).length=2*l.length:=by
 induction l with
 |nil=>rfl
 |cons x l ih=>simp only[cK,List.flatMap_cons,bW,bH,length_nil]at *;omega
theorem Jj(a b:List aJ):cK (a++b)=cK a++cK b:=by simp[cK]
theorem acz:∀{a b:List aJ},cK a=cK b->a=b
 |[],[],_=>rfl
 |[],y::b,h=>by simp[cK]at h
 |x::a,[],h=>by simp[cK]at h
 |⟨x1,x2⟩::a,⟨y1,y2⟩::b,h=>by
  simp only[cK,List.flatMap_cons,List.cons_append,bI,List.cons.injEq]at h;obtain⟨rfl,rfl,h⟩:=h;rw[acz (a:=a) (b:=b) h]
theorem Rj(x:aJ):∀ys:List aJ,∃k,k<=ys.length/\(iR js x ys).reverse=ys.reverse.take k++x::ys.reverse.drop k/\(∀ j (h:j<ys.reverse.length),k<=j->x.from_<(ys.reverse[j]).from_)/\(∀ h:0<k,∀h':k -1<ys.reverse.length,¬x.from_<(ys.reverse[k -1]).from_)
 |[]=>⟨0,aT _,by simp[iR],λj h=>by simp at h,λh=>by omega⟩
 |y::ys=>by
  by_cases hxy:x.from_<y.from_
  ·have hb:js x y=true:=(by simp[js,hxy]);have⟨k,h1,h2,h3,h4⟩:=Rj x ys;have hlr:ys.reverse.length=ys.length:=(by simp);refine⟨k,by simp;omega,?_,λj hj hkj=>?_,λh0 hk=>?_⟩
   ·simp only[iR,hb,ai,List.reverse_cons,h2];rw[List.take_append_of_le_length (by omega),List.drop_append_of_le_length (by omega),aN];rfl
   ·simp only[List.reverse_cons]at hj ⊢;by_cases e:j<ys.reverse.length
    ·rw[List.getElem_append_left e];exact h3 j e hkj
    ·have:j=ys.reverse.length:=(by rw[bW]at hj;simp only[length_singleton]at hj;omega);subst this;simp[hxy]
   ·simp only[List.reverse_cons];rw[List.getElem_append_left (by omega)];exact h4 h0 (by omega)
  ·have hb:js x y=false:=(by simp[js,hxy]);refine⟨ys.length+1,by simp,?_,λj hj hkj=>?_,λh0 hk=>?_⟩
   ·simp only[iR,hb,ak];rw[take_of_length_le (by simp),drop_of_length_le (by simp)];simp
   ·simp at hj;omega
   ·simp[hxy]
theorem EH{l:List ay}{i:Nat}(hi:i<l.length){F T:List Int}(hT:T.length=F.length)(ho:F.length<1099511627776){k:Nat}(hk:k<=F.length)
 (h1:∀j (h:j<F.length),k<=j->l[i].y0<F[j]) (h2:∀h:0<k,¬l[i].y0<F[k -1]'(by omega)) (r1 r2:List Int) (hr1:r1.length=F.length+1) (hr2:r2.length=F.length+1):
 ∀(m:Nat)(z z':Int),k<=m->m<=F.length->∀n,m -k<n->
 ∃y y',iter (l6 l (i:Int) r1 r2) n ((m:Int),F.take m++z::F.drop m,T.take m++z'::T.drop m)=some ((k:Int),F.take k++y::F.drop k,T.take k++y'::T.drop k)
 | 0,z,z',g1,_,n,hn=>by
  obtain⟨j,rfl⟩:∃k,n=k+1:=⟨n -1,by omega⟩;have:k=0:=by omega
  subst this;exact⟨z,z',bn (by simp[l6])⟩
 |m+1,z,z',g1,g2,n,hn=>by
  obtain⟨j,rfl⟩:∃k,n=k+1:=⟨n -1,by omega⟩;have d:decide (((m+1:Nat):Int)>0)=true:=by simp<;>omega
  have wp:i64.wrap (((m+1:Nat):Int) -1)=(m:Int):=by rw[iJ (by omega) (by omega)];rfl
  have GP:br (m:Int) r1.length=true:=bS (by omega);have J0:br ((m+1:Nat):Int) r1.length=true:=bS (by omega);have vp:br (m:Int) r2.length=true:=bS (by omega);have JT:br ((m+1:Nat):Int) r2.length=true:=bS (by omega)
  have gen:∀(A:List Int)(hA:A.length=F.length)(z:Int),bh (A.take (m+1)++z::A.drop (m+1)) (((0:Nat):Int)+(m:Int))=some (A[m]'(by omega))/\bh (A.take (m+1)++z::A.drop (m+1)) (((0:Nat):Int)+((m+1:Nat):Int))=some z/\
   (A.take (m+1)++z::A.drop (m+1)).set (m+1) (A[m]'(by omega))=A.take m++(A[m]'(by omega))::A.drop m:=by
   intro A hA z;have lt:(A.take (m+1)).length=m+1:=(by rw[length_take];omega);refine⟨?_,?_,?_⟩
   ·rw[iT,List.getElem?_append_left (by omega),List.getElem?_take,aP (by omega),dI (by omega)]
   ·rw[iT,fO (by omega),lt];simp
   ·rw[set_append_right _ _ (by omega),lt];simp only[Nat.sub_self,List.set_cons_zero];rw[dG (by omega),aN,drop_eq_getElem_cons (show m<A.length by omega)];rfl
  have⟨a1,a2,a3⟩:=gen F rfl z;have⟨b1,b2,b3⟩:=gen T hT z';have e2:(((0:Nat):Int)+((m+1:Nat):Int)).toNat=m+1:=by simp
  by_cases e:k=m+1
  ·subst e;have hno:decide (F[m]'(by omega)>l[i].y0)=false:=(by simpa using h2 (by omega));refine⟨z,z',bn ?_⟩;simp only[l6,d,ai,wp,GP,a1,aZ hi,ah,hno,ak]
  ·have th:decide (F[m]'(by omega)>l[i].y0)=true:=(by simpa using h1 m (by omega) (by omega));have step:l6 l (i:Int) r1 r2 (((m+1:Nat):Int),F.take (m+1)++z::F.drop (m+1),T.take (m+1)++z'::T.drop (m+1))=some (.inl ((m:Int),F.take m++(F[m]'(by omega))::F.drop m,T.take m++(T[m]'(by omega))::T.drop m)):=(by simp only[l6,d,ai,wp,GP,a1,aZ hi,ah,th,J0,a2,vp,b1,JT,b2,e2,a3,b3]);rw[dw step];exact EH hi hT ho hk h1 h2 r1 r2 hr1 hr2 m _ _ (by omega) (by omega) j (by omega)
def nO(l:List ay)(x:Int):List aJ:=(fA l x).foldl (λ rs s=>iR js s rs) []
theorem Y5(l:List ay)(x:Int):(nO l x).length<=l.length:=by
 have h:=gB (lt:=js) (fA l x);have h2:=Cb l x;have:(mH js (fA l x)).length=(nO l x).length:=by unfold mH nO;rw[List.length_reverse]
 omega
theorem af5(l:List ay)(r:ay)(x:Int):nO (l++[r]) x=if r.x0<=x/\x<r.x1 then iR js ⟨r.y0,r.y1⟩ (nO l x)else nO l x:=by
 unfold nO fA;rw[List.filter_append,map_append,List.foldl_append];by_cases h:r.x0<=x/\x<r.x1
 ·simp[h]
 ·have hf:(decide (r.x0<=x)&&decide (x<r.x1))=false:=by simpa using h
  simp[List.filter_cons,hf,h]
theorem Rk{l:List ay}{x:Int}(hl:l.length<1099511627)(hn:l.length<n):
 iter (rQ n l x) n ((0:Int),([]:List Int),([]:List Int))=some ((nO l x).reverse.map (·.from_),(nO l x).reverse.map (·.to)):=by
 have:=jK (step:=rQ n l x) (λ i=>((i:Int),(nO (l.take i) x).reverse.map (·.from_),(nO (l.take i) x).reverse.map (·.to))) l.length ((nO l x).reverse.map (·.from_),(nO l x).reverse.map (·.to)) (λ i hi=>?_) ?_ n (by omega)
 ·simpa[nO,fA]using this
 ·have hi':decide ((i:Int)<(l.length:Int))=true:=by simpa using hi
  have ht:l.take (i+1)=l.take i++[l[i]]:=dG hi;have sn:=af5 (l.take i) l[i] x;rw[ht,sn];have hlen:=Y5 (l.take i) x;rw[length_take]at hlen;have⟨k,p1,p2,p3,p4⟩:=Rj ⟨l[i].y0,l[i].y1⟩ (nO (l.take i) x);generalize nO (l.take i) x=rs at*;have e:((bif (decide (l[i].x0>(x:Int)))then some true else some (decide (l[i].x1<=(x:Int)))):Option Bool)=some (!decide (l[i].x0<=x/\x<l[i].x1)):=by
   rw[apQ];congr 1;by_cases h1:l[i].x0<=x<;>by_cases h2:x<l[i].x1<;>simp[h1,h2]<;>omega
  simp only[rQ,hi',ai,aZ hi,ah,e];by_cases hc:l[i].x0<=x/\x<l[i].x1
  ·simp only[hc,and_self,decide_true,Bool.not_true,ak,if_true];have lF:(rs.reverse.map (·.from_)).length=rs.length:=(by simp);have lT:(rs.reverse.map (·.to)).length=rs.length:=(by simp);have lR:rs.reverse.length=rs.length:=(by simp)
   have q:=EH (l:=l) hi (F:=rs.reverse.map (·.from_)) (T:=rs.reverse.map (·.to)) (by simp) (by omega) (k:=k) (by omega)
    (λ j hj hkj=>by rw[List.getElem_map];exact p3 j (by omega) hkj) (λ h0=>by rw[List.getElem_map];exact p4 h0 (by omega)) (rs.reverse.map (·.from_)++[0]) (rs.reverse.map (·.to)++[0]) (by simp) (by simp) rs.length 0 0 p1 (by omega) n (by omega)
   have tF:(rs.reverse.map (·.from_)).take rs.length=rs.reverse.map (·.from_):=take_of_length_le (by simp);have dF:(rs.reverse.map (·.from_)).drop rs.length=[]:=drop_of_length_le (by simp);have tT:(rs.reverse.map (·.to)).take rs.length=rs.reverse.map (·.to):=take_of_length_le (by simp);have dT:(rs.reverse.map (·.to)).drop rs.length=[]:=drop_of_length_le (by simp);rw[tF,dF,tT,dT]at q;obtain⟨y,y',q⟩:=q;have hF:((iR js ⟨l[i].y0,l[i].y1⟩ rs).reverse).map (·.from_)=(rs.reverse.map (·.from_)).take k++l[i].y0::(rs.reverse.map (·.from_)).drop k:=(by rw[p2];simp[map_take,map_drop]);have hT':((iR js ⟨l[i].y0,l[i].y1⟩ rs).reverse).map (·.to)=(rs.reverse.map (·.to)).take k++l[i].y1::(rs.reverse.map (·.to)).drop k:=(by rw[p2];simp[map_take,map_drop]);rw[hF,hT'];generalize hFd:rs.reverse.map (·.from_)=F at*;generalize hTd:rs.reverse.map (·.to)=T at*;have ap1:bD F.length F.length (sub ([0]:List Int) 0 1).length 1 8=true:=bB (n:=1);have ap2:bD T.length T.length (sub ([0]:List Int) 0 1).length 1 8=true:=bB (n:=1);have s1:∀A:List Int,A++(sub ([0]:List Int) 0 1)=A++[0]:=λ_=>rfl;have gen:∀(A:List Int) (hA:A.length=rs.length) (z v:Int),bh (A.take k++z::A.drop k) (((0:Nat):Int)+(k:Int))=some z/\(A.take k++z::A.drop k).set k v=A.take k++v::A.drop k/\(A.take k++v::A.drop k).length=rs.length+1:=by
    intro A hA z v;have lt:(A.take k).length=k:=(by rw[length_take];omega);refine⟨?_,?_,?_⟩
    ·rw[iT,fO (by omega),lt];simp
    ·rw[set_append_right _ _ (by omega),lt];simp
    ·rw[bW,bH,length_drop];omega
   obtain⟨a1,a2,a3⟩:=gen F (by omega) y l[i].y0;obtain⟨b1,b2,b3⟩:=gen T (by omega) y' l[i].y1;have e2:(((0:Nat):Int)+(k:Int)).toNat=k:=(by simp);have lr1:(F++([0]:List Int)).length=rs.length+1:=(by simp;omega);have lr2:(T++([0]:List Int)).length=rs.length+1:=(by simp;omega);have q':iter (l6 l (i:Int) (F++[0]) (T++[0])) n ((F.length:Int),F++[0],T++[0])=some ((k:Int),F.take k++y::F.drop k,T.take k++y'::T.drop k):=(by rw[lF];exact q);simp only[ap1,ai,dH,s1,ap2,q',ah,lr1,lr2,bS (show k<rs.length+1 by omega),a1,b1,e2,a2,b2,a3,b3,aB];rw[aO (by omega)]
  ·have hcf:decide (l[i].x0<=x/\x<l[i].x1)=false:=(by simpa using hc);rw[aM hc];simp only[hcf,Bool.not_false,ai,aB,ah];rw[aO (by omega)]
 ·have d:decide ((l.length:Int)<(l.length:Int))=false:=by simp
  simp only[rQ,d,ak,List.take_length,aB,ai]
theorem Rl{c:List aJ}(hc:c.length<1099511627)(hn:c.length<n):
 iter (rR (c.map (·.from_)) (c.map (·.to))) n ((0:Int),([]:List Int))=some (cK (c.foldl jn [])):=by
 have:=j6 (l:=c) (step:=rR (c.map (·.from_)) (c.map (·.to))) (λ i (s:List aJ)=>((i:Int),cK s)) (λ q s=>jn s q) (λ s=>cK s) (λ i s=>s.length<=i)
  (λ i hi s hs=>?_) (λ s hs=>by simp[rR]) n hn [] (aT _)
 ·rw[show ((0:Nat):Int)=0 from rfl]at this;exact this
 ·refine⟨?_,by have:=O8 s c[i];omega⟩;have lF:(c.map (·.from_)).length=c.length:=by simp
  have lT:(c.map (·.to)).length=c.length:=by simp
  have hi':decide ((i:Int)<(((c.map (·.from_)).length:Nat):Int))=true:=by rw[lF];simpa using hi
  have ibF:br (i:Int) (c.map (·.from_)).length=true:=bS (by omega);have Jn:br (i:Int) (c.map (·.to)).length=true:=bS (by omega);have gF:bh (c.map (·.from_)) (((0:Nat):Int)+(i:Int))=some c[i].from_:=by rw[iT];simp[hi]
  have gT:bh (c.map (·.to)) (((0:Nat):Int)+(i:Int))=some c[i].to:=by rw[iT];simp[hi]
  have sl:=jY s;have ap:bD (cK s).length (cK s).length (sub ([c[i].from_,c[i].to]:List Int) 0 2).length 2 8=true:=bB (n:=2);have sb:(sub ([c[i].from_,c[i].to]:List Int) 0 2)=[c[i].from_,c[i].to]:=rfl;rw[sb]at ap;have fl:cK s++[c[i].from_,c[i].to]=cK (s++[c[i]]):=by rw[Jj];rfl
  simp only[rR,hi',ai,ibF,gF,ah];rcases List.eq_nil_or_concat s with rfl |⟨s0,q,CM⟩
  ·have d0:decide ((((cK []).length:Nat):Int)>0)=false:=(by simp[cK]);simp only[d0,ak,ah,Jn,gT,ai,ap,dH,sb,fl,aB];rw[aO (by omega)];rfl
  ·rw[List.concat_eq_append]at CM;subst CM;have f1:cK (s0++[q])=cK s0++[q.from_,q.to]:=(by rw[Jj];rfl);have tf:(cK (s0++[q])).length=(cK s0).length+2:=(by rw[f1];simp);have d0:decide ((((cK (s0++[q])).length:Nat):Int)>0)=true:=(by rw[tf];simp<;>omega);have wp:i64.wrap ((((cK (s0++[q])).length:Nat):Int) -1)=(((cK s0).length+1:Nat):Int):=(by rw[iJ (by omega) (by omega),tf];rfl);have vp:br (((cK s0).length+1:Nat):Int) (cK (s0++[q])).length=true:=bS (by omega);have g:bh (cK (s0++[q])) (((0:Nat):Int)+(((cK s0).length+1:Nat):Int))=some q.to:=(by rw[iT,f1,fO (by omega)];simp);have z:(((0:Nat):Int)+(((cK s0).length+1:Nat):Int)).toNat=(cK s0).length+1:=(by simp);have st:(cK (s0++[q])).set ((cK s0).length+1) (max q.to c[i].to)=cK (s0++[⟨q.from_,max q.to c[i].to⟩]):=by
    rw[f1,Jj,set_append_right _ _ (by omega)];simp[cK]
   have m:jn (s0++[q]) c[i]=bif decide (c[i].from_<=q.to)then s0++[⟨q.from_,max q.to c[i].to⟩]else s0++[q]++[c[i]]:=(by simp[jn]);have le:(cK (s0++[(⟨q.from_,max q.to c[i].to⟩:aJ)])).length=(cK (s0++[q])).length:=(by rw[jY,jY];simp);simp only[d0,ai,wp,vp,g,ah,m];cases decide (c[i].from_<=q.to)with
   |true=>
    simp only[ai,Jn,gT,z,st,ah,le,aB];rw[aO (by omega)]
   |false=>
    simp only[ak,Jn,gT,ai,ap,dH,sb,fl,aB,ah];rw[aO (by omega)]
theorem Oi{l:List ay}{x:Int}(hl:l.length<1099511627)(hn:l.length<n):sZ n l x=some (cK (bR l x)):=by
 have h:=Y5 l x;have hr:(nO l x).reverse.length=(nO l x).length:=by simp
 unfold sZ;simp only[length_nil,aB,ai,Rk hl hn,ah];rw[Rl (n:=n) (c:=(nO l x).reverse) (by omega) (by omega)];simp only[ah,bG,aB,ai];rfl
theorem af6{a b:List Int}(ha:a.length<1099511627)(hn:a.length<n):LP n a b=some (decide (a=b)):=by
 unfold LP;by_cases hl:a.length=b.length
 ·have e:((a.length:Int) !=(b.length:Int))=false:=by simp[hl]
  rw[e];simp only[ak];have eq:∀m:Nat,m<=a.length->(∀ j (h:j<m) (h1:j<a.length) (h2:j<b.length),a[j]=b[j])->∀k,a.length -m<k->iter (tY a b) k (m:Int)=some (if a=b then .inl ()else .inr false):=by
   intro m
   induction hm:a.length -m generalizing m with
   |zero=>
    intro h1 h2 k hk;obtain⟨k,rfl⟩:∃j,k=j+1:=⟨k -1,by omega⟩;have:m=a.length:=(by omega);subst this;have:a=b:=List.ext_getElem hl λi h1 h2'=>h2 i h1 h1 h2';refine bn ?_;simp[tY,this]
   |succ d ih=>
    intro h1 h2 k hk;obtain⟨k,rfl⟩:∃j,k=j+1:=⟨k -1,by omega⟩;have hma:m<a.length:=(by omega);have hmb:m<b.length:=(by omega);have d':decide ((m:Int)<(a.length:Int))=true:=(by simpa using hma);by_cases hab:a[m]=b[m]
    ·have s8:tY a b (m:Int)=some (.inl (((m+1:Nat)):Int)):=by
      simp only[tY,d',ai,aZ hma,aZ hmb,ah,hab,bne_self_eq_false,ak];rw[aO (by omega)]
     rw[dw s8];refine ih (m+1) (by omega) (by omega) (λ j hj h3 h4=>?_) k (by omega);by_cases e:j=m
     ·subst e;exact hab
     ·exact h2 j (by omega) h3 h4
    ·have:¬a=b:=λe=>hab (by simp only[e]);refine bn ?_;have ne:(a[m] !=b[m])=true:=(by simp[hab]);simp only[tY,d',ai,aZ hma,aZ hmb,ah,ne,this,if_false];rfl
  have:=eq 0 (by omega) (λ j h=>by omega) n (by omega);rw[show ((0:Nat):Int)=0 from rfl]at this;rw[this];by_cases hab:a=b<;>simp[hab,dM]
 ·have e:((a.length:Int) !=(b.length:Int))=true:=by simp;omega
  have:¬a=b:=λe=>hl (by rw[e]);simp[e,this]
theorem VI{E:List Int}{i:Nat}(hi:i+1<E.length)(hE:E.length<1099511627)(done:List ay)(w:List aJ)(x0 x1:Int)(hd:done.length+w.length<1099511627776)(hn:w.length<n):
 iter (yN E (i:Int) (done++bU x0 x1 w)) n ((done.length:Int),done++bU x0 x1 w)=some (done++bU x0 E[i+1] w):=by
 have lr:∀y,(bU x0 y w).length=w.length:=λy=>by simp[bU]
 have:=jK (step:=yN E (i:Int) (done++bU x0 x1 w)) (λ j=>(((done.length+j:Nat):Int),done++((bU x0 E[i+1] w).take j++(bU x0 x1 w).drop j))) w.length (done++bU x0 E[i+1] w) (λ j hj=>?_) ?_ n hn
 ·simpa using this
 ·have hlen:(done++bU x0 x1 w).length=done.length+w.length:=by rw[bW,lr]
  have d:decide (((done.length+j:Nat):Int)<(((done++bU x0 x1 w).length:Nat):Int))=true:=by rw[hlen];simp;omega
  have w1:i64.wrap ((i:Int)+1)=(((i+1:Nat)):Int):=aO (by omega);have w2:i64.wrap (((done.length+j:Nat):Int)+1)=(((done.length+j+1:Nat)):Int):=aO (by omega);have ib:br ((done.length+j:Nat):Int) (done++bU x0 x1 w).length=true:=bS (by omega);have lt:((bU x0 E[i+1] w).take j).length=j:=by rw[length_take,lr];omega
  have hjr:j<(bU x0 x1 w).length:=by rw[lr];exact hj
  have dr:(bU x0 x1 w).drop j=(⟨x0,w[j].from_,x1,w[j].to⟩:ay)::(bU x0 x1 w).drop (j+1):=by
   rw[drop_eq_getElem_cons hjr];congr 1;simp[bU]
  have g:bh (done++((bU x0 E[i+1] w).take j++(bU x0 x1 w).drop j)) (((0:Nat):Int)+((done.length+j:Nat):Int))=some ⟨x0,w[j].from_,x1,w[j].to⟩:=by
   rw[iT,fO (by omega),fO (by omega),lt,dr];simp
  have e2:(((0:Nat):Int)+((done.length+j:Nat):Int)).toNat=done.length+j:=by simp;omega
  have st:(done++((bU x0 E[i+1] w).take j++(bU x0 x1 w).drop j)).set (done.length+j) (ay.mk x0 w[j].from_ E[i+1] w[j].to)=done++((bU x0 E[i+1] w).take (j+1)++(bU x0 x1 w).drop (j+1)):=by
   rw[set_append_right _ _ (by omega),set_append_right _ _ (by omega),lt,dr];rw[dG (by rw[lr];exact hj)];have:done.length+j -done.length -j=0:=(by omega);rw[this];simp[bU]
  simp only[yN,d,ai,w1,bS hi,eY hi,ah,ib,g,e2,st,w2];rfl
 ·have hlen:(done++bU x0 x1 w).length=done.length+w.length:=by rw[bW,lr]
  have d:decide (((done.length+w.length:Nat):Int)<(((done++bU x0 x1 w).length:Nat):Int))=false:=by rw[hlen];simp
  simp only[yN,d,ak];rw[take_of_length_le (by rw[lr];exact aT _),drop_of_length_le (by rw[lr];exact aT _),List.append_nil]
theorem VJ{E:List Int}{i:Nat}(hi:i+1<E.length)(hE:E.length<1099511627)(aa:List ay)(w:List aJ)(hd:aa.length+w.length<1099511627776)(hn:w.length<n):
 iter (yO E (i:Int) (cK w)) n ((0:Int),aa)=some (aa++bU (E[i]'(by omega)) E[i+1] w):=by
 have lr:(bU (E[i]'(by omega)) E[i+1] w).length=w.length:=by simp[bU]
 have fl:=jY w;have De:∀j (hj:j<w.length),(cK w)[2*j]? =some w[j].from_/\(cK w)[2*j+1]? =some w[j].to:=by
  intro j;clear hd hn lr fl
  induction w generalizing j with
  |nil=>intro hj;simp at hj
  |cons q w ih=>
   intro hj;have fc:cK (q::w)=q.from_::q.to::cK w:=(by simp[cK]);rw[fc];cases j with
   |zero=>simp
   |succ j=>
    have:=ih j (by simpa using hj);rw[show 2*(j+1)=2*j+1+1 by omega];simpa using this
 have:=jK (step:=yO E (i:Int) (cK w)) (λ j=>(((2*j:Nat):Int),aa++(bU (E[i]'(by omega)) E[i+1] w).take j)) w.length (aa++bU (E[i]'(by omega)) E[i+1] w) (λ j hj=>?_) ?_ n hn
 ·simpa using this
 ·have w1:i64.wrap ((i:Int)+1)=(((i+1:Nat)):Int):=aO (by omega);have w2:i64.wrap (((2*j:Nat):Int)+1)=(((2*j+1:Nat)):Int):=aO (by omega);have w3:i64.wrap (((2*j:Nat):Int)+2)=(((2*(j+1):Nat)):Int):=by rw[cB (by omega) (by omega)];omega
  have d:decide (((2*j+1:Nat):Int)<(((cK w).length:Nat):Int))=true:=by rw[fl];simp;omega
  have ib0:br ((2*j:Nat):Int) (cK w).length=true:=bS (by omega);have GP:br ((2*j+1:Nat):Int) (cK w).length=true:=bS (by omega);have g0:bh (cK w) (((0:Nat):Int)+((2*j:Nat):Int))=some w[j].from_:=by rw[iT];exact(De j hj).1
  have g1:bh (cK w) (((0:Nat):Int)+((2*j+1:Nat):Int))=some w[j].to:=by rw[iT];exact(De j hj).2
  have lt:((bU (E[i]'(by omega)) E[i+1] w).take j).length=j:=by rw[length_take,lr];omega
  have lo:(aa++(bU (E[i]'(by omega)) E[i+1] w).take j).length=aa.length+j:=by rw[bW,lt]
  have ap:bD (aa++(bU (E[i]'(by omega)) E[i+1] w).take j).length (aa++(bU (E[i]'(by omega)) E[i+1] w).take j).length (sub ([(ay.mk (E[i]'(by omega)) w[j].from_ E[i+1] w[j].to)]:List ay) 0 1).length 1 32=true:=bB (n:=1);have sb:(sub ([(ay.mk (E[i]'(by omega)) w[j].from_ E[i+1] w[j].to)]:List ay) 0 1)=[⟨E[i]'(by omega),w[j].from_,E[i+1],w[j].to⟩]:=rfl;rw[sb]at ap;simp only[yO,w2,d,ai,bS (show i<E.length by omega),eY (show i<E.length by omega),ah,ib0,g0,w1,bS hi,eY hi,GP,g1,sb,ap,dH,aB,w3];rw[dG (by rw[lr];exact hj),aN];simp[bU]
 ·have w2:i64.wrap (((2*w.length:Nat):Int)+1)=(((2*w.length+1:Nat)):Int):=aO (by omega);have d:decide (((2*w.length+1:Nat):Int)<(((cK w).length:Nat):Int))=false:=by rw[fl];simp;omega
  simp only[yO,w2,d,ak,aB,ai];rw[take_of_length_le (by rw[lr];exact aT _)]
def fG(op:Int)(p q:Bool):Bool:=bif op==2 then(p&&!q)else bif op==1 then(p&&q)else(p || q)
theorem GL(op:Int):fG op false false=false:=by
 unfold fG;cases op==2<;>cases op==1<;>rfl
def gc(F:List Int)(y:Int):Nat:=(F.filter λz=>decide (z<=y)).length
theorem af7{F:List Int}{y:Int}(h:∀z∈F,z<=y):gc F y=F.length:=by
 unfold gc;rw[List.filter_eq_self.2 λz hz=>by simpa using h z hz]
theorem A9{F:List Int}{y:Int}(h:∀z∈F,y<z):gc F y=0:=by
 unfold gc;rw[List.filter_eq_nil_iff.2 λz hz=>by have:=h z hz;simp;omega];rfl
theorem Y6(F G:List Int)(y:Int):gc (F++G) y=gc F y+gc G y:=by simp[gc]
theorem aj5{F:List Int}{y:Int}{i:Nat}(hi:i<=F.length)(h1:∀j (h:j<F.length),j<i->F[j]<=y)(h2:∀j (h:j<F.length),i<=j->y<F[j]):gc F y=i:=by
 have e:=List.take_append_drop i F;rw[<- e,Y6,af7,A9,length_take]
 ·omega
 ·intro z hz;obtain⟨j,hj,rfl⟩:=mem_iff_getElem.1 hz;rw[length_drop]at hj;rw[getElem_drop];exact h2 (i+j) (by omega) (by omega)
 ·intro z hz;obtain⟨j,hj,rfl⟩:=mem_iff_getElem.1 hz;rw[length_take]at hj;rw[List.getElem_take];exact h1 j (by omega) (by omega)
theorem Jk(s:aJ)(c:List aJ):cK (s::c)=s.from_::s.to::cK c:=rfl
theorem Nb:∀{c:List aJ},Can c->(cK c).Pairwise (· < ·)/\∀s∈c.head?,∀z∈cK c,s.from_<=z
 |[],_=>⟨.nil,by simp⟩
 |s::c,h=>by
  have⟨i1,i2⟩:=Nb (Rb h);have hs:=h.2 s mem_cons_self;have ht:∀z∈cK c,s.to<z:=by
   intro z hz;cases c with
   |nil=>simp[cK]at hz
   |cons t c=>
    have h1:=(pairwise_cons.1 h.1).1 t mem_cons_self;have h2:=i2 t rfl z hz;omega
  refine⟨?_,λq hq z hz=>?_⟩
  ·rw[Jk];refine .cons (λ z hz=>?_) (.cons ht i1);rcases aK.1 hz with rfl |hz
   ·exact hs
   ·have:=ht z hz;have:s.from_<s.to:=hs;omega
  ·have:q=s:=(by simpa using hq.symm);subst this;rw[Jk]at hz;have hs':q.from_<q.to:=hs;rcases aK.1 hz with rfl |hz
   ·exact Int.le_refl _
   ·rcases aK.1 hz with rfl |hz
    ·omega
    ·have:=ht z hz;omega
theorem Nc:∀{c:List aJ},Can c->∀y,ej c y=decide (gc (cK c) y%2=1)
 |[],_,y=>rfl
 |s::c,h,y=>by
  have ih:=Nc (Rb h) y;have hs:s.from_<s.to:=h.2 s mem_cons_self;have ye:=(Nb h).1;rw[Jk,pairwise_cons,pairwise_cons]at ye;rw[lD,Jk,show s.from_::s.to::cK c=[s.from_,s.to]++cK c from rfl,Y6,ih];have ct:gc [s.from_,s.to] y=(if s.from_<=y then 1 else 0)+(if s.to<=y then 1 else 0):=by
   unfold gc;by_cases a:s.from_<=y<;>by_cases b:s.to<=y<;>simp[a,b]
  by_cases a:s.from_<=y
  ·by_cases b:s.to<=y
   ·have d:decide (y<s.to)=false:=(by simp;omega);rw[ct,aP a,aP b,d];simp only[Bool.and_false,Bool.false_or];exact decide_eq_decide.2 (by omega)
   ·have d:decide (y<s.to)=true:=(by simp;omega);have z:gc (cK c) y=0:=A9 λz hz=>(by have:=ye.2.1 z hz;omega);rw[ct,aP a,aM b,d,z];simp[a]
  ·have z:gc (cK c) y=0:=A9 λz hz=>(by have:=ye.2.1 z hz;omega);rw[ct,aM a,aM (by omega),z];simp[a]
theorem af8:∀(n:Nat){F:List Int},F.length=2*n->F.Pairwise (· < ·)->∃c,F=cK c/\Can c
 | 0,F,hl,_=>⟨[],List.eq_nil_of_length_eq_zero (by omega),WV⟩
 |n+1,F,hl,hp=>by
  match F,hl,hp with
  |[],hl,_=>simp at hl
  |[_],hl,_=>simp at hl;omega
  |a::b::F,hl,hp=>
   rw[pairwise_cons,pairwise_cons]at hp;obtain⟨c,rfl,hc⟩:=af8 n (F:=F) (by simp at hl;omega) hp.2.2;refine⟨⟨a,b⟩::c,rfl,?_,?_⟩
   ·refine pairwise_cons.2 ⟨λ s hs=>?_,hc.1⟩;refine hp.2.1 s.from_ ?_;unfold cK;rw[mem_flatMap];exact⟨s,hs,by simp⟩
   ·intro s hs;rcases aK.1 hs with rfl |hs
    ·exact hp.1 b mem_cons_self
    ·exact hc.2 s hs
structure A2(a b:List Int)(keep:Bool->Bool->Bool)(i k:Nat)(was:Bool)(aa:List Int):Prop where
 hi:i<=a.length
 hk:k<=b.length
 ab:∀j (hj:j<a.length),j<i->∀m (hm:m<b.length),k<=m->a[j] <b[m]
 ba:∀j (hj:j<b.length),j<k->∀m (hm:m<a.length),i<=m->b[j] <a[m]
 L7:aa.Pairwise (· < ·)
 oa:∀z∈aa,∀m (hm:m<a.length),i<=m->z<a[m]
 ob:∀z∈aa,∀m (hm:m<b.length),k<=m->z<b[m]
 len:aa.length<=i+k
 hw:was=keep (decide (i%2=1)) (decide (k%2=1))
 par:was=decide (aa.length%2=1)
 val:∀y,(∀ m (hm:m<a.length),i<=m->y<a[m])->(∀ m (hm:m<b.length),k<=m->y<b[m])->decide (gc aa y%2=1)=keep (decide (gc a y%2=1)) (decide (gc b y%2=1))
theorem ano(i:Nat):((Int.tmod (i:Int) 2)==(1:Int))=decide (i%2=1):=by
 have:Int.tmod (i:Int) 2=((i%2:Nat):Int):=rfl;rw[this,eu,beq_iff_eq,aG];omega
theorem ail{a b:List Int}(ha:a.Pairwise (· < ·))(hb:b.Pairwise (· < ·)){keep:Bool->Bool->Bool}{i k:Nat}{was:Bool}{aa:List Int}(h:A2 a b keep i k was aa){v:Int}{i' k':Nat}
 (ci:(i'=i+1/\∃hi:i<a.length,a[i]=v)\/(i'=i/\∀hi:i<a.length,v<a[i])) (lL:(k'=k+1/\∃hk:k<b.length,b[k]=v)\/(k'=k/\∀hk:k<b.length,v<b[k])) (some:i<i'\/k<k'):
 A2 a b keep i' k' (keep (decide (i'%2=1)) (decide (k'%2=1))) (bif (keep (decide (i'%2=1)) (decide (k'%2=1))==was)then aa else aa++[v]):=by
 rw[List.pairwise_iff_getElem]at ha hb;have av:∀m (hm:m<a.length),i'<=m->v<a[m]:=by
  intro m hm z6;rcases ci with ⟨e,hi,hv⟩ |⟨e,hv⟩
  ·have:=ha i m hi hm (by omega);omega
  ·rcases Nat.eq_or_lt_of_le (show i<=m by omega)with e2 |e2
   ·subst e2;exact hv hm
   ·have h1:=hv (by omega);have:=ha i m (by omega) hm e2;omega
 have bv:∀m (hm:m<b.length),k'<=m->v<b[m]:=by
  intro m hm z6;rcases lL with ⟨e,hi,hv⟩ |⟨e,hv⟩
  ·have:=hb k m hi hm (by omega);omega
  ·rcases Nat.eq_or_lt_of_le (show k<=m by omega)with e2 |e2
   ·subst e2;exact hv hm
   ·have h1:=hv (by omega);have:=hb k m (by omega) hm e2;omega
 have SM:∀j (hj:j<a.length),j<i'->a[j]<=v:=by
  intro j hj hji;rcases ci with ⟨e,hi,hv⟩ |⟨e,hv⟩
  ·rcases Nat.eq_or_lt_of_le (show j<=i by omega)with e2 |e2
   ·subst e2;omega
   ·have:=ha j i hj hi e2;omega
  ·rcases lL with ⟨e3,hk,hv2⟩ |⟨e3,_⟩
   ·have:=h.ab j hj (by omega) k hk (aT _);omega
   ·omega
 have SJ:∀j (hj:j<b.length),j<k'->b[j]<=v:=by
  intro j hj hji;rcases lL with ⟨e,hi,hv⟩ |⟨e,hv⟩
  ·rcases Nat.eq_or_lt_of_le (show j<=k by omega)with e2 |e2
   ·subst e2;omega
   ·have:=hb j k hj hi e2;omega
  ·rcases ci with ⟨e3,hi,hv2⟩ |⟨e3,_⟩
   ·have:=h.ba j hj (by omega) i hi (aT _);omega
   ·omega
 have ov:∀z∈aa,z<v:=by
  intro z hz;rcases some with s |s
  ·rcases ci with ⟨e,hi,hv⟩ |⟨e,_⟩
   ·have:=h.oa z hz i hi (aT _);omega
   ·omega
  ·rcases lL with ⟨e,hk,hv⟩ |⟨e,_⟩
   ·have:=h.ob z hz k hk (aT _);omega
   ·omega
 have hi':i'<=a.length:=by
  rcases ci with ⟨e,hi,_⟩ |⟨e,_⟩
  ·omega
  ·have:=h.hi;omega
 have hk':k'<=b.length:=by
  rcases lL with ⟨e,hi,_⟩ |⟨e,_⟩
  ·omega
  ·have:=h.hk;omega
 generalize hN:(bif (keep (decide (i'%2=1)) (decide (k'%2=1))==was)then aa else aa++[v])=az;have mem:∀z∈az,z<=v:=by
  intro z hz;rw[<- hN]at hz;cases hk2:(keep (decide (i'%2=1)) (decide (k'%2=1))==was)with
  |true=>rw[hk2]at hz;have:=ov z hz;omega
  |false=>
   rw[hk2]at hz;rcases bf.1 hz with hz |hz
   ·have:=ov z hz;omega
   ·have:z=v:=(by simpa using hz);omega
 have ipar:∀j,i<=j->j<=i+1->True:=λ_ _ _=>trivial;have par:keep (decide (i'%2=1)) (decide (k'%2=1))=decide (az.length%2=1):=by
  rw[<- hN];have hp:=h.par;cases hk2:(keep (decide (i'%2=1)) (decide (k'%2=1))==was)with
  |true=>
   rw[beq_iff_eq]at hk2;rw[hk2,hp];rfl
  |false=>
   rw[beq_eq_false_iff_ne]at hk2;have:keep (decide (i'%2=1)) (decide (k'%2=1))=!was:=(by cases h1:keep (decide (i'%2=1)) (decide (k'%2=1))<;>cases h2:was<;>simp_all);rw[this,hp,eu];simp only[ak,bW,length_singleton,Bool.not_eq_true',dn,aG];omega
 refine⟨hi',hk',λj hj hji m hm hmk=>?_,λj hj hjk m hm z6=>?_,?_,λz hz m hm z6=>?_,λz hz m hm hmk=>?_,?_,rfl,par,λy y1 y2=>?_⟩
 ·have:=SM j hj hji;have:=bv m hm hmk;omega
 ·have:=SJ j hj hjk;have:=av m hm z6;omega
 ·rw[<- hN];cases (keep (decide (i'%2=1)) (decide (k'%2=1))==was)with
  |true=>exact h.L7
  |false=>exact pairwise_append.2 ⟨h.L7,List.pairwise_singleton _ _,λz hz w hw=>by
   have:w=v:=(by simpa using hw);rw[this];exact ov z hz⟩
 ·have:=mem z hz;have:=av m hm z6;omega
 ·have:=mem z hz;have:=bv m hm hmk;omega
 ·rw[<- hN];have:=h.len;have:i<=i':=by rcases ci with ⟨e,_⟩ |⟨e,_⟩<;>omega
  have:k<=k':=by rcases lL with ⟨e,_⟩ |⟨e,_⟩<;>omega
  cases (keep (decide (i'%2=1)) (decide (k'%2=1))==was)with
  |true=>simp only[ai];omega
  |false=>simp only[ak,bW,length_singleton];omega
 ·by_cases hy:y<v
  ·have e:gc az y=gc aa y:=by
    rw[<- hN];cases (keep (decide (i'%2=1)) (decide (k'%2=1))==was)with
    |true=>rfl
    |false=>
     rw[ak,Y6,A9 (F:=[v]) (λ z hz=>by
      have:z=v:=(by simpa using hz);omega)]
     rfl
   rw[e];refine h.val y (λ m hm z6=>?_) λm hm hmk=>?_
   ·rcases Nat.lt_or_ge m i' with hlt |hge
    ·rcases ci with ⟨e,hi,hv⟩ |⟨e,_⟩
     ·have:m=i:=(by omega);subst this;omega
     ·omega
    ·exact y1 m hm hge
   ·rcases Nat.lt_or_ge m k' with hlt |hge
    ·rcases lL with ⟨e,hi,hv⟩ |⟨e,_⟩
     ·have:m=k:=(by omega);subst this;omega
     ·omega
    ·exact y2 m hm hge
  ·rw[af7 (F:=az) λz hz=>by have:=mem z hz;omega];rw[aj5 (i:=i') hi' (λ j hj hji=>by have:=SM j hj hji;omega) y1,aj5 (i:=k') hk' (λ j hj hji=>by have:=SJ j hj hji;omega) y2];exact par.symm
theorem VK{n:Nat}{a b:List Int}(ha:a.Pairwise (· < ·))(hb:b.Pairwise (· < ·))(la:a.length<=1000000)(lb:b.length<=1000000)(op:Int):∀(m i k:Nat)(was:Bool)(aa:List Int),(a.length -i)+(b.length -k)<=m->A2 a b (fG op) i k was aa->∀n,m<n->
 ∃out',iter (kD a b op) n ((i:Int),(k:Int),was,aa)=some out'/\∃w,A2 a b (fG op) a.length b.length w out':=by
 intro m
 induction m with
 |zero=>
  intro i k was aa hm h n hn;obtain⟨n,rfl⟩:∃j,n=j+1:=⟨n -1,by omega⟩;have e1:i=a.length:=by have:=h.hi;omega
  have e2:k=b.length:=by have:=h.hk;omega
  subst e1 e2;have d1:decide ((a.length:Int)<(a.length:Int))=false:=by simp
  have d2:decide ((b.length:Int)<(b.length:Int))=false:=by simp
  refine⟨aa,bn ?_,was,h⟩;simp only[kD,d1,d2,ak,ah,aB,ai]
 |succ m ih=>
  intro i k was aa hm h n hn;obtain⟨n,rfl⟩:∃j,n=j+1:=⟨n -1,by omega⟩;have hi:=h.hi;have hk:=h.hk;by_cases hend:i=a.length/\k=b.length
  ·obtain⟨rfl,rfl⟩:=hend;exact ih _ _ _ _ (by omega) h (n+1) (by omega)
  have lo:=h.len;have ap:∀v:Int,bD aa.length aa.length ([v]:List Int).length 1 8=true:=λv=>bB (n:=1);have s1:∀v:Int,(sub ([v]:List Int) 0 1)=[v]:=λ_=>rfl;have w1:i64.wrap ((i:Int)+1)=((i+1:Nat):Int):=aO (by omega);have w2:i64.wrap ((k:Int)+1)=((k+1:Nat):Int):=aO (by omega);have two:((2:Int) !=0)=true:=rfl;have kp:∀p q:Bool,(((bif p then some true else some q):Option Bool).bind λv12=>((bif (op==(1:Int))then(bif p then some q else some false)else some v12):Option (Bool)).bind λv13=>((bif (op==(2:Int))then(bif p then some (!q)else some false)else some v13):Option (Bool)))=some (fG op p q):=by
   intro p q;unfold fG;cases op==1<;>cases op==2<;>cases p<;>cases q<;>rfl
  have turn:∀(v:Int)(i' k':Nat),((((bif (decide ((i:Int)<(a.length:Int)))then(bif (decide ((k:Int)>=(b.length:Int)))then some true else(bh a (i:Int)).bind λx1=>(bh b (min (k:Int) (i64.wrap ((b.length:Int) -1)))).bind λx2=>some (decide (x1<=(x2:Int))))else some false):Option (Bool)).bind λv6=>(bif v6 then(bh a (i:Int)).bind λx3=>some x3 else(bh b (k:Int)).bind λx4=>some x4):Option Int)=some v)->
   ((i'=i+1/\∃hi:i<a.length,a[i]=v)\/(i'=i/\∀hi:i<a.length,v<a[i]))->((k'=k+1/\∃hk:k<b.length,b[k]=v)\/(k'=k/\∀hk:k<b.length,v<b[k]))->(i<i'\/k<k')->
   kD a b op ((i:Int),(k:Int),was,aa)=some (.inl ((i':Int),(k':Int),fG op (decide (i'%2=1)) (decide (k'%2=1)),bif(fG op (decide (i'%2=1)) (decide (k'%2=1))==was)then aa else aa++[v])):=by
   intro v i' k' hv ci lL _;have go:((bif (decide ((i:Int)<(a.length:Int)))then some true else some (decide ((k:Int)<(b.length:Int)))):Option Bool)=some true:=by
    by_cases hc:i<a.length
    ·have:decide ((i:Int)<(a.length:Int))=true:=(by simpa using hc);rw[this];rfl
    ·have h1:decide ((i:Int)<(a.length:Int))=false:=(by simp;omega);have h3:k<b.length:=(by clear hv ci lL w1 w2;omega);have h2:decide ((k:Int)<(b.length:Int))=true:=(by simpa using h3);rw[h1,h2];rfl
   have ei:(((bif (decide ((i:Int)<(a.length:Int)))then(bh a (i:Int)).bind λx5=>some (x5==(v:Int))else some false):Option (Bool)).bind λv8=>(bif v8 then some (i64.wrap ((i:Int)+1))else some (i:Int)):Option (Int))=some (i':Int):=by
    rcases ci with ⟨e,hi,hv2⟩ |⟨e,hv2⟩
    ·have:decide ((i:Int)<(a.length:Int))=true:=(by simpa using hi);rw[this,aZ hi];have e2:(a[i]==v)=true:=(by simp[hv2]);simp only[ai,ah,e2,w1,e]
    ·by_cases hi:i<a.length
     ·have:decide ((i:Int)<(a.length:Int))=true:=(by simpa using hi);have:=hv2 hi;have e2:(a[i]==v)=false:=(by rw[beq_eq_false_iff_ne];intro e;rw[e]at this;exact Int.lt_irrefl v this);rw[‹decide ((i:Int)<(a.length:Int))=true›,aZ hi];simp only[ai,ah,e2,ak,e]
     ·have:decide ((i:Int)<(a.length:Int))=false:=(by simp;omega);rw[this];simp only[ak,ah,e]
   have ek:(((bif (decide ((k:Int)<(b.length:Int)))then(bh b (k:Int)).bind λx6=>some (x6==(v:Int))else some false):Option (Bool)).bind λv10=>(bif v10 then some (i64.wrap ((k:Int)+1))else some (k:Int)):Option (Int))=some (k':Int):=by
    rcases lL with ⟨e,hi,hv2⟩ |⟨e,hv2⟩
    ·have:decide ((k:Int)<(b.length:Int))=true:=(by simpa using hi);rw[this,aZ hi];have e2:(b[k]==v)=true:=(by simp[hv2]);simp only[ai,ah,e2,w2,e]
    ·by_cases hi:k<b.length
     ·have:decide ((k:Int)<(b.length:Int))=true:=(by simpa using hi);have:=hv2 hi;have e2:(b[k]==v)=false:=(by rw[beq_eq_false_iff_ne];intro e;rw[e]at this;exact Int.lt_irrefl v this);rw[‹decide ((k:Int)<(b.length:Int))=true›,aZ hi];simp only[ai,ah,e2,ak,e]
     ·have:decide ((k:Int)<(b.length:Int))=false:=(by simp;omega);rw[this];simp only[ak,ah,e]
   unfold kD;simp only;rw[go];simp only[ah,ai];rw[hv];simp only[ah];rw[ei];simp only[ah];rw[ek];simp only[ah,two,ai,ano];have kk:=kp (decide (i'%2=1)) (decide (k'%2=1));generalize decide (i'%2=1)=P at*;generalize decide (k'%2=1)=Q at*;have fin:∀v14:Bool,(((bif (!(v14==was))then(ck (bD aa.length aa.length (sub ([v]:List Int) 0 1).length 1 8) (fK (aa++(sub ([v]:List Int) 0 1)) λr1=>ck (bb r1.length r1.length) (some r1)))else(ck (bb aa.length aa.length) (some aa))):Option ((List Int))).bind λv15=>ck (bb v15.length v15.length) (some (.inl ((i':Int),(k':Int),v14,v15))))=(some (.inl ((i':Int),(k':Int),v14,bif(v14==was)then aa else aa++[v])):Option ((Int×Int×Bool×(List Int))⊕(List Int))):=by
    intro v14;simp only[s1,ap,dH,aB,ai];cases v14==was<;>rfl
   simp only[fin];unfold fG;cases op==1<;>cases op==2<;>cases P<;>cases Q<;>rfl
  have fin:∀(v:Int)(i' k':Nat),((((bif (decide ((i:Int)<(a.length:Int)))then(bif (decide ((k:Int)>=(b.length:Int)))then some true else(bh a (i:Int)).bind λx1=>(bh b (min (k:Int) (i64.wrap ((b.length:Int) -1)))).bind λx2=>some (decide (x1<=(x2:Int))))else some false):Option (Bool)).bind λv6=>(bif v6 then(bh a (i:Int)).bind λx3=>some x3 else(bh b (k:Int)).bind λx4=>some x4):Option Int)=some v)->
   ((i'=i+1/\∃hi:i<a.length,a[i]=v)\/(i'=i/\∀hi:i<a.length,v<a[i]))->((k'=k+1/\∃hk:k<b.length,b[k]=v)\/(k'=k/\∀hk:k<b.length,v<b[k]))->(i<i'\/k<k')->i'+k'<=i+k+2->
   ∃out',iter (kD a b op) (n+1) ((i:Int),(k:Int),was,aa)=some out'/\∃w,A2 a b (fG op) a.length b.length w out':=by
   intro v i' k' hv ci lL sm _;have st:=turn v i' k' hv ci lL sm;obtain⟨o,ho,hw⟩:=ih i' k' _ _ (by rcases ci with ⟨e,h1,_⟩ |⟨e,_⟩<;>rcases lL with ⟨e2,h2,_⟩ |⟨e2,_⟩<;>omega) (ail ha hb h ci lL sm) n (by omega);exact⟨o,by rw[dw st];exact ho,hw⟩
  by_cases ci:i<a.length
  ·have d1:decide ((i:Int)<(a.length:Int))=true:=(by simpa using ci);by_cases lL:k<b.length
   ·have d2:decide ((k:Int)>=(b.length:Int))=false:=(by simp;omega);have mn:min (k:Int) (i64.wrap ((b.length:Int) -1))=(k:Int):=(by rw[cB (by omega) (by omega)];omega);by_cases hle:a[i]<=b[k]
    ·have hv:((((bif (decide ((i:Int)<(a.length:Int)))then(bif (decide ((k:Int)>=(b.length:Int)))then some true else(bh a (i:Int)).bind λx1=>(bh b (min (k:Int) (i64.wrap ((b.length:Int) -1)))).bind λx2=>some (decide (x1<=(x2:Int))))else some false):Option (Bool)).bind λv6=>(bif v6 then(bh a (i:Int)).bind λx3=>some x3 else(bh b (k:Int)).bind λx4=>some x4):Option Int)=some a[i]):=by
      have:decide (a[i]<=b[k])=true:=(by simpa using hle);simp only[d1,d2,mn,aZ ci,aZ lL,ai,ak,ah,this]
     rcases Int.lt_or_eq_of_le hle with hlt |heq
     ·exact fin a[i] (i+1) k hv (.inl ⟨rfl,ci,rfl⟩) (.inr ⟨rfl,λ_=>hlt⟩) (by omega) (by omega)
     ·exact fin a[i] (i+1) (k+1) hv (.inl ⟨rfl,ci,rfl⟩) (.inl ⟨rfl,lL,heq.symm⟩) (by omega) (by omega)
    ·have hv:((((bif (decide ((i:Int)<(a.length:Int)))then(bif (decide ((k:Int)>=(b.length:Int)))then some true else(bh a (i:Int)).bind λx1=>(bh b (min (k:Int) (i64.wrap ((b.length:Int) -1)))).bind λx2=>some (decide (x1<=(x2:Int))))else some false):Option (Bool)).bind λv6=>(bif v6 then(bh a (i:Int)).bind λx3=>some x3 else(bh b (k:Int)).bind λx4=>some x4):Option Int)=some b[k]):=by
      have:decide (a[i]<=b[k])=false:=(by simpa using hle);simp only[d1,d2,mn,aZ ci,aZ lL,ai,ak,ah,this]
     exact fin b[k] i (k+1) hv (.inr ⟨rfl,λ_=>by omega⟩) (.inl ⟨rfl,lL,rfl⟩) (by omega) (by omega)
   ·have d2:decide ((k:Int)>=(b.length:Int))=true:=(by simp;omega);have hv:((((bif (decide ((i:Int)<(a.length:Int)))then(bif (decide ((k:Int)>=(b.length:Int)))then some true else(bh a (i:Int)).bind λx1=>(bh b (min (k:Int) (i64.wrap ((b.length:Int) -1)))).bind λx2=>some (decide (x1<=(x2:Int))))else some false):Option (Bool)).bind λv6=>(bif v6 then(bh a (i:Int)).bind λx3=>some x3 else(bh b (k:Int)).bind λx4=>some x4):Option Int)=some a[i]):=(by simp only[d1,d2,aZ ci,ai,ah]);exact fin a[i] (i+1) k hv (.inl ⟨rfl,ci,rfl⟩) (.inr ⟨rfl,λh=>absurd h lL⟩) (by omega) (by omega)
  ·have lL:k<b.length:=(by omega);have d1:decide ((i:Int)<(a.length:Int))=false:=(by simp;omega);have hv:((((bif (decide ((i:Int)<(a.length:Int)))then(bif (decide ((k:Int)>=(b.length:Int)))then some true else(bh a (i:Int)).bind λx1=>(bh b (min (k:Int) (i64.wrap ((b.length:Int) -1)))).bind λx2=>some (decide (x1<=(x2:Int))))else some false):Option (Bool)).bind λv6=>(bif v6 then(bh a (i:Int)).bind λx3=>some x3 else(bh b (k:Int)).bind λx4=>some x4):Option Int)=some b[k]):=(by simp only[d1,aZ lL,ak,ah]);exact fin b[k] i (k+1) hv (.inr ⟨rfl,λh=>absurd h ci⟩) (.inl ⟨rfl,lL,rfl⟩) (by omega) (by omega)
theorem Y7{c d:List aJ}(hc:Can c)(hd:Can d)(lc:c.length<=200000)(ld:d.length<=200000)(op:Int)(hn:2*c.length+2*d.length<n):En n (cK c) (cK d) op=some (cK (kN (fG op) c d)):=by
 have h0:A2 (cK c) (cK d) (fG op) 0 0 false []:=by
  refine⟨by omega,by omega,by omega,by omega,.nil,by simp,by simp,by simp,?_,rfl,λy y1 y2=>?_⟩
  ·exact(GL op).symm
  ·rw[A9 (F:=cK c) (λ z hz=>by obtain⟨j,hj,rfl⟩:=mem_iff_getElem.1 hz;exact y1 j hj (by omega)),A9 (F:=cK d) (λ z hz=>by obtain⟨j,hj,rfl⟩:=mem_iff_getElem.1 hz;exact y2 j hj (by omega))];exact(GL op).symm
 obtain⟨o,ho,w,hw⟩:=VK (n:=n) (Nb hc).1 (Nb hd).1 (by rw[jY];omega) (by rw[jY];omega) op ((cK c).length+(cK d).length) 0 0 false [] (by omega) h0 n (by rw[jY,jY];omega);have key:o=cK (kN (fG op) c d):=by
  have w0:w=false:=by
   rw[hw.hw,jY,jY];have e1:decide (2*c.length%2=1)=false:=(by simp);have e2:decide (2*d.length%2=1)=false:=(by simp);rw[e1,e2,GL]
  have ev:o.length%2=0:=by
   have:=hw.par;rw[w0]at this;have:=of_decide_eq_false this.symm;omega
  obtain⟨e,rfl,he⟩:=af8 (o.length/2) (F:=o) (by omega) hw.L7;have⟨m1,m2⟩:=EB (keep:=fG op) (GL op) c d;congr 1;refine Jf he m1 λy=>?_;rw[Nc he,m2,Nc hc,Nc hd];exact hw.val y (λ m hm h=>by omega) λm hm h=>by omega
 unfold En;have ho':iter (kD (cK c) (cK d) op) n ((0:Int),(0:Int),false,([]:List Int))=some o:=ho;simp only[length_nil,aB,ai,ho',ah,bG,key]
theorem TS{l:List ay}(hl:l.length<1099511627)(hn:l.length<n)(w:List Int)(hw:w.length<=1000000):iter (vk l) n ((0:Int),w)=some (w++l.flatMap λr=>[r.x0,r.x1]):=by
 have fl:∀i,((l.take i).flatMap λr=>[r.x0,r.x1]).length<=2*i:=by
  intro i;rw[mR,length_take];omega
 have:=jK (step:=vk l) (λ i=>((i:Int),w++(l.take i).flatMap λr=>[r.x0,r.x1])) l.length (w++l.flatMap λr=>[r.x0,r.x1]) (λ i hi=>?_) ?_ n hn
 ·simpa using this
 ·have hi':decide ((i:Int)<(l.length:Int))=true:=by simpa using hi
  have f:=fl i;have s1:(sub ([l[i].x0,l[i].x1]:List Int) 0 2)=[l[i].x0,l[i].x1]:=rfl;have ap:bD (w++(l.take i).flatMap λr=>[r.x0,r.x1]).length (w++(l.take i).flatMap λr=>[r.x0,r.x1]).length ([l[i].x0,l[i].x1]:List Int).length 2 8=true:=by
   refine bB (n:=2) ?_ ?_
   ·rw[bW];omega
   ·rw[bW];simp only[maxLen];omega
  simp only[vk,hi',ai,aZ hi,ah,s1,ap,dH,aB];rw[aO (by omega),dG hi,List.flatMap_append,aN];rfl
 ·simp[vk]
theorem Y8{a b:List ay}(ha:a.length<=100000)(hb:b.length<=100000)(hn:6*(a.length+b.length)+1000<=n):M5 n a b=some (bP (a++b)):=by
 unfold M5;have fa:=mR a;have fb:=mR b;simp only[length_nil,aB,ai,TQ (l:=a) (n:=n) (by omega) (by omega),ah,TS (l:=b) (n:=n) (by omega) (by omega) (a.flatMap λr=>[r.x0,r.x1]) (by omega),bG];rw[aaE (by rw[bW];omega) (by rw[bW];omega)];simp only[ah,bG,aB,ai];unfold bP;rw[List.flatMap_append]
theorem alf(l:List bF):∀x0 x1 y0 y1,Jg x0 x1 [] l=Jg y0 y1 [] l:=by
 induction l with
 |nil=>intros;simp[Jg,bU]
 |cons s l ih=>
  intro x0 x1 y0 y1;simp only[Jg];split
  ·exact ih _ _ _ _
  ·simp[bU]
def Rm(op:Int)(a b:List ay):List bF:=Ce (fG op) a b
theorem anp{op:Int}{a b:List ay}{i:Nat}(h:i<(Rm op a b).length):∃(h1:i<(bP (a++b)).length)(h2:i+1<(bP (a++b)).length),(Rm op a b)[i]=⟨(bP (a++b))[i],(bP (a++b))[i+1],kN (fG op) (bR a (bP (a++b))[i]) (bR b (bP (a++b))[i])⟩:=by
 obtain⟨p1,p2⟩:=pK (λ x x'=>(⟨x,x',kN (fG op) (bR a x) (bR b x)⟩:bF)) (bP (a++b));have h0:i<(iq (λ x x'=>(⟨x,x',kN (fG op) (bR a x) (bR b x)⟩:bF)) (bP (a++b))).length:=h;exact⟨by omega,by omega,p2 i (by omega) h⟩
theorem Rn(op:Int)(a b:List ay):(Rm op a b).length=(bP (a++b)).length -1:=(pK (λ x x'=>(⟨x,x',kN (fG op) (bR a x) (bR b x)⟩:bF)) (bP (a++b))).1
def aqE(op:Int)(a b:List ay)(i:Nat)(last:Nat)(aa:List ay)(w:List aJ):Prop:=
 aa.length<=i*(2*(a.length+b.length))/\w.length<=2*(a.length+b.length)/\
 ((i=0/\last=0/\aa=[]/\w=[])\/
  (0<i/\∃done x0 x1,aa=done++bU x0 x1 w/\last=done.length/\fI (Rm op a b)=done++Jg x0 x1 w ((Rm op a b).drop i)))
theorem Jl{op:Int}{a b:List ay}(va:∀r∈a,cL r=true)(vb:∀r∈b,cL r=true)(ha:a.length<=100000)(hb:b.length<=100000)(hn:6*(a.length+b.length)+1000<=n):∀(m i last:Nat)(aa:List ay)(w:List aJ),i+m=(Rm op a b).length->aqE op a b i last aa w->∀k,m<k->
 iter (mQ n a b op (bP (a++b))) k ((last:Int),(i:Int),aa,cK w)=some (fI (Rm op a b))
 | 0,i,last,aa,w,hm,hI,k,hk=>by
  obtain⟨k,rfl⟩:∃j,k=j+1:=⟨k -1,by omega⟩;have sl:=Rn op a b;have le:=l7 (a++b);rw[bW]at le;have wp:i64.wrap ((i:Int)+1)=(((i+1:Nat)):Int):=aO (by omega);have d:decide ((((i+1:Nat)):Int)<(((bP (a++b)).length:Nat):Int))=false:=by simp;omega
  obtain⟨_,_,hI⟩:=hI;have fin:aa=fI (Rm op a b):=by
   rcases hI with ⟨h0,_,rfl,_⟩ |⟨h0,done,x0,x1,rfl,_,hw⟩
   ·subst h0;have:Rm op a b=[]:=List.eq_nil_of_length_eq_zero (by omega);rw[this];rfl
   ·rw[hw,drop_of_length_le (by omega)];rfl
  refine bn ?_;simp only[mQ,wp,d,ak,aB,ai,fin]
 |m+1,i,last,aa,w,hm,hI,k,hk=>by
  obtain⟨k,rfl⟩:∃j,k=j+1:=⟨k -1,by omega⟩;have sl:=Rn op a b;have le:=l7 (a++b);rw[bW]at le;have hi:i<(Rm op a b).length:=by omega
  have⟨e1,e2,es⟩:=anp hi;obtain⟨hlo,hlw,hI⟩:=hI;have ob:i*(2*(a.length+b.length))<=400000*400000:=Nat.mul_le_mul (by omega) (by omega);have wp:i64.wrap ((i:Int)+1)=(((i+1:Nat)):Int):=aO (by omega);have d:decide ((((i+1:Nat)):Int)<(((bP (a++b)).length:Nat):Int))=true:=by simp;omega
  have la:=pJ a (bP (a++b))[i];have lb:=pJ b (bP (a++b))[i];have c1:sZ n a (bP (a++b))[i]=some (cK (bR a (bP (a++b))[i])):=Oi (by omega) (by omega);have c2:sZ n b (bP (a++b))[i]=some (cK (bR b (bP (a++b))[i])):=Oi (by omega) (by omega);have ca:=(lG va (bP (a++b))[i]).1;have cb:=(lG vb (bP (a++b))[i]).1;have c3:=Y7 (n:=n) ca cb (by omega) (by omega) op (by omega);have hcl:=Og (fG op) (bR a (bP (a++b))[i]) (bR b (bP (a++b))[i]);have dr:(Rm op a b).drop i=⟨(bP (a++b))[i],(bP (a++b))[i+1],kN (fG op) (bR a (bP (a++b))[i]) (bR b (bP (a++b))[i])⟩::(Rm op a b).drop (i+1):=by rw[drop_eq_getElem_cons hi,es]
  generalize hc:kN (fG op) (bR a (bP (a++b))[i]) (bR b (bP (a++b))[i])=c at*;have ints:LP n (cK c) (cK w)=some (decide (c=w)):=by
   rw[af6 (by rw[jY];omega) (by rw[jY];omega)];congr 1;exact decide_eq_decide.2 ⟨λ h=>acz h,λh=>by rw[h]⟩
  have hlen:decide ((((cK c).length:Nat):Int)>0)=decide (c≠[]):=by
   rw[jY];refine decide_eq_decide.2 ?_;rw[<- List.length_pos_iff];omega
  have di:decide ((i:Int)>0)=decide (0<i):=by refine decide_eq_decide.2 ?_;omega
  have test:((bif decide ((i:Int)>0)then(bif decide ((((cK c).length:Nat):Int)>0)then some (decide (c=w))else some false)else some false):Option Bool)=some (decide (0<i/\c≠[]/\c=w)):=by
   rw[hlen,di,TG,TG];congr 1;by_cases a:0<i<;>by_cases b:c≠[]<;>by_cases e:c=w<;>simp[a,b,e]
  by_cases ht:0<i/\c≠[]/\c=w
  ·obtain⟨h0,hne,rfl⟩:=ht;rcases hI with ⟨h1,_⟩ |⟨_,done,x0,x1,rfl,rfl,hw⟩
   ·omega
   ·have lenr:(done++bU x0 x1 c).length=done.length+c.length:=(by simp[bU]);have r:=VI (n:=n) (E:=bP (a++b)) e2 (by omega) done c x0 x1 (by omega) (by omega);have SO:(done++bU x0 x1 c).length=(done++bU x0 (bP (a++b))[i+1] c).length:=(by simp[bU]);have s8:mQ n a b op (bP (a++b)) ((done.length:Int),(i:Int),done++bU x0 x1 c,cK c)=some (.inl ((done.length:Int),(((i+1:Nat)):Int),done++bU x0 (bP (a++b))[i+1] c,cK c)):=by
     have t1:decide (0<i/\c≠[]/\c=c)=true:=(by simp[h0,hne]);rw[t1]at test;simp only[eq_self]at test;simp only[mQ,wp,d,ai,bS e1,eY e1,ah,c1,c2,bG,aB,c3,ints];rw[test];simp only[ah,ai,r,SO,aB]
    rw[dw s8];refine Jl va vb ha hb hn m (i+1) _ _ _ (by omega) ⟨?_,hlw,.inr ⟨by omega,done,x0,_,rfl,rfl,?_⟩⟩ k (by omega)
    ·rw[<- SO,Nat.add_mul];omega
    ·rw[hw,dr];simp only[Jg,if_true]
  ·have hcw:¬(0<i/\c≠[]/\c=w):=ht;have r:=VJ (n:=n) (E:=bP (a++b)) e2 (by omega) aa c (by omega) (by omega);have s8:mQ n a b op (bP (a++b)) ((last:Int),(i:Int),aa,cK w)=some (.inl ((aa.length:Int),(((i+1:Nat)):Int),aa++bU (bP (a++b))[i] (bP (a++b))[i+1] c,cK c)):=by
    have t1:decide (0<i/\c≠[]/\c=w)=false:=(by simpa using hcw);rw[t1]at test;simp only[mQ,wp,d,ai,bS e1,eY e1,ah,c1,c2,bG,aB,c3,ints];rw[test];simp only[ah,ak,r,aB,ai]
   rw[dw s8];refine Jl va vb ha hb hn m (i+1) _ _ _ (by omega) ⟨?_,by omega,.inr ⟨by omega,aa,_,_,rfl,rfl,?_⟩⟩ k (by omega)
   ·rw[bW,Nat.add_mul];simp[bU];omega
   ·rcases hI with ⟨rfl,rfl,rfl,rfl⟩ |⟨h0,done,x0,x1,rfl,rfl,hw⟩
    ·rw[List.drop_zero]at dr
     conv=>lhs;rw[dr]
     simp[fI]
    ·rw[hw,dr,aN];congr 1;simp only[Jg];by_cases hcw2:c=w
     ·have hce:c=[]:=by
       rcases Decidable.em (c=[])with h |h
       ·exact h
       ·exact absurd ⟨h0,h,hcw2⟩ hcw
      subst hcw2;subst hce;simp only[if_true];have:bU x0 x1 []=[]:=rfl;rw[this,bI];exact alf _ _ _ _ _
     ·simp only[hcw2,if_false]
theorem Oj{op:Int}{a b:List ay}(va:∀r∈a,cL r=true)(vb:∀r∈b,cL r=true)(ha:a.length<=100000)(hb:b.length<=100000)(hn:6*(a.length+b.length)+1000<=n):yP n a b op=some (fI (Ce (fG op) a b)):=by
 have sl:=Rn op a b;have le:=l7 (a++b);rw[bW]at le;unfold yP;rw[Y8 (by omega) (by omega) hn];have:=Jl (n:=n) (op:=op) va vb ha hb hn (Rm op a b).length 0 0 [] [] (by omega) ⟨by simp,by simp,.inl ⟨rfl,rfl,rfl,rfl⟩⟩ n (by omega);have B5:iter (mQ n a b op (bP (a++b))) n ((0:Int),(0:Int),([]:List ay),([]:List Int))=some (fI (Ce (fG op) a b)):=this;simp only[ah,length_nil,aB,ai,B5,bG]
theorem Ro{l:List ay}(hv:∀r∈l,cL r=true)(hl:l.length<=4000)(hn:50000<=n):yP n l [] 0=some (fI (dh l)):=by
 rw[Oj hv (by simp) (by omega) (by simp) (by simp;omega)];congr 1;have hs:qQ (Ce (fG 0) l []):=Ar _ _ (rT _);have sp:=λx=>EB (keep:=fG 0) rfl (bR l x) (bR [] x);refine af0 hs hv (λ x=>by rw[M9 rfl];exact(sp x).1) λx y=>?_;rw[M9 rfl,(sp x).2,(lG hv x).2,(lG (l:=[]) (by simp) x).2];have:jF [] x y=false:=rfl;rw[this];show(jF l x y || false)=_;rw[Bool.or_false]
theorem GN(r:ay):rO r=some (cL r):=by simp only[rO,TG]
theorem af9{l:List ay}(h:kK (λ r=>!cL r) l=none):∀r∈l,cL r=true:=by
 intro r hr;rcases wN (λ r=>!cL r) l with ⟨i,hi,h1,_⟩ |⟨_,h2⟩
 ·rw[h1]at h;cases h
 ·simpa using h2 r hr
theorem aga{l:List ay}(hl:l.length<=4000)(hn:50000<=n):HQ n l=some (kf l):=by
 unfold HQ;have h1:=iK (l:=l) (step:=M6 l) (λ i=>(i:Int)) (λ r=>!cL r) () (λ _=>(([]:List ay),(1:Int))) (λ i hi=>?_) ?_ n (by omega)
 ·rw[show ((0:Nat):Int)=0 from rfl]at h1;rw[h1];have h2:=jf (λ r=>!cL r) l;cases hf:kK (λ r=>!cL r) l with
  |some i=>
   rw[hf]at h2;have:l.all cL=false:=by
    rw[<- Bool.not_eq_true,all_eq_true];intro hall;have h3:=h2.symm;simp only[Option.isSome_some,any_eq_true]at h3;obtain⟨x,hx,hx2⟩:=h3;rw[hall x hx]at hx2;cases hx2
   simp[kf,this]
  |none=>
   have hv:=af9 hf;have:l.all cL=true:=(by rw[all_eq_true];exact hv);simp only[fB,kf,this,if_true];by_cases rI:l.length>400
   ·have d4:decide ((l.length:Int)>400)=true:=(by simp;omega);simp only[d4,ai,rI,if_true]
   have d4:decide ((l.length:Int)>400)=false:=(by simp;omega);simp only[d4,ak,rI,if_false];rw[Ro hv (by omega) hn];simp only[ah,bG,aB,ai];by_cases qk:(fI (dh l)).length>200
   ·have:decide (((fI (dh l)).length:Int)>200)=true:=(by simp;omega);simp only[this,ai,qk,if_true]
   ·have:decide (((fI (dh l)).length:Int)>200)=false:=(by simp;omega);simp only[this,ak,qk,if_false]
 ·have hi':decide ((i:Int)<(l.length:Int))=true:=by simpa using hi
  simp only[M6,hi',ai,aZ hi,ah,GN];cases cL l[i]with
  |false=>rfl
  |true=>simp only[Bool.not_true,ak];rw[aO (by omega)]
 ·simp[M6]
theorem aim{α:Type}[DecidableEq α]{a b:List α}{step:Int->Option (Int⊕(Unit⊕Bool))}(hl:a.length=b.length)
 (h:∀i (h1:i<a.length) (h2:i<b.length),step (i:Int)=some (if a[i]=b[i]then .inl (((i+1:Nat)):Int)else .inr (.inr false))) (hend:step (a.length:Int)=some (.inr (.inl ()))) (n:Nat) (hn:a.length<n):
 iter step n (0:Int)=some (if a=b then .inl ()else .inr false):=by
 have zl:(a.zip b).length=a.length:=by rw[List.length_zip];omega
 have:=iK (l:=a.zip b) (step:=step) (λ i=>(i:Int)) (λ z=>!decide (z.1=z.2)) () (λ _=>false) (λ i hi=>?_) (by rw[zl];exact hend) n (by omega)
 ·rw[show ((0:Nat):Int)=0 from rfl]at this;rw[this];rcases wN (λ z:α×α=>!decide (z.1=z.2)) (a.zip b)with ⟨i,hi,h1,h2,_⟩ |⟨h1,h2⟩
  ·rw[h1];have:a≠b:=by
    intro e;subst e;simp at h2
   simp[this]
  ·rw[h1];have:a=b:=by
    refine List.ext_getElem hl λi hi hj=>?_;have hm:(a[i],b[i])∈a.zip b:=by
     rw[mem_iff_getElem];exact⟨i,by omega,by simp⟩
    have:=h2 _ hm;simpa using this
   simp[this]
 ·have ha:i<a.length:=by omega
  have hb:i<b.length:=by omega
  rw[h i ha hb];simp only[List.getElem_zip];by_cases e:a[i]=b[i]<;>simp[e]
theorem aaF{a b:List ay}(ha:a.length<1099511627)(hn:a.length<n):QY n a b=some (decide (a=b)):=by
 unfold QY;by_cases hl:a.length=b.length
 ·have e:((a.length:Int) !=(b.length:Int))=false:=by simp[hl]
  rw[e];simp only[ak];rw[aim (step:=Eo a b) hl (λ i h1 h2=>?_) (by simp[Eo]) n hn]
  ·by_cases hab:a=b<;>simp[hab,dM]
  ·have d:decide ((i:Int)<(a.length:Int))=true:=(by simpa using h1);have eqr:(a[i].x0==b[i].x0&&(a[i].y0==b[i].y0&&(a[i].x1==b[i].x1&&(a[i].y1==b[i].y1&&true))))=decide (a[i]=b[i]):=by
    cases a[i];cases b[i];rw[eu];simp
   simp only[Eo,d,ai,aZ h1,aZ h2,ah,eqr];by_cases hab:a[i]=b[i]
   ·simp only[hab,decide_true,Bool.not_true,ak,if_true];rw[aO (by omega)]
   ·simp only[hab,decide_false,Bool.not_false,ai,if_false];rfl
 ·have e:((a.length:Int) !=(b.length:Int))=true:=by simp;omega
  have:¬a=b:=λe=>hl (by rw[e]);simp[e,this]
theorem vD{l:List ay}(hl:l.length<=4000)(hn:50000<=n):wU n l=some (cD l):=by
 unfold wU cD;rw[aga hl hn];simp only[ah];have lo:=aoJ l;by_cases h:(kf l).2=0
 ·have e:((kf l).2==0)=true:=by simp[h]
  simp only[e,ai,bG,aB,h,decide_true,Bool.true_and];rw[aaF (by omega) (by omega)];rfl
 ·have e:((kf l).2==0)=false:=by simp[h]
  simp[e,h]
end Go.Proofs
