import Derived.Test.YtoiaceohobeemaaGreatTD3
open Go.IntKind (i64)
open List (length_take mem_map all_eq_true getElem_mem length_map mem_iff_getElem append_nil length_drop length_nil foldl_cons take_of_length_le any_eq_true mem_cons_self pairwise_cons length_filter_le pairwise_append getElem_drop)
namespace Go.Proofs
open Go.Gb Go.RowKit
variable {n:Nat}
abbrev mn(a b:Int):Bool:=decide (a<b)
theorem Ux(a b:Int):cmp_Less_int a b=some (mn a b):=by simp[cmp_Less_int,cmp_isNaN_int]
theorem kP(a b:Int):cmp_Compare_int a b=some (if a<b then -1 else if b<a then 1 else 0):=by
 by_cases h1:a<b
 ·simp[cmp_Compare_int,cmp_isNaN_int,h1]
 ·by_cases h2:b<a
  ·simp[cmp_Compare_int,cmp_isNaN_int,h1,h2]
  ·simp[cmp_Compare_int,cmp_isNaN_int,h1,h2]
theorem ZV{x:Nat}(k:Nat)(h:2 ^ k<=x):Go.Sort.bitsLen x=Go.Sort.bitsLen (x/2 ^ k)+k:=by
 have key:∀m,Go.Sort.bitsLen x<=m+k↔Go.Sort.bitsLen (x/2 ^ k)<=m:=by
  intro m;rw[Go.Sort.bitsLen_le_iff,Go.Sort.bitsLen_le_iff,Nat.pow_add,Nat.div_lt_iff_lt_mul (Nat.two_pow_pos k)]
 have h1:=(key (Go.Sort.bitsLen (x/2 ^ k))).2 (aQ _);have hk:k<=Go.Sort.bitsLen x:=by
  rcases Nat.lt_or_ge (Go.Sort.bitsLen x) k with hlt |hge
  ·have:=(Go.Sort.bitsLen_le_iff x (Go.Sort.bitsLen x)).1 (aQ _);have h2:2 ^ Go.Sort.bitsLen x<=2 ^ k:=Nat.pow_le_pow_right (by omega) (by omega);omega
  ·exact hge
 have h2:=(key (Go.Sort.bitsLen x -k)).1 (by omega);omega
theorem anT{v:Nat}(h:v<256):IntKind.u8.wrap (v:Int)=(v:Int):=by
 simp only[IntKind.wrap,IntKind.bits,IntKind.signed,Bool.false_and,Bool.false_eq_true,if_false];omega
set_option maxRecDepth 100000 in
theorem Dg{x:Nat}(hx:x<1152921504606846976):bits_Len (x:Int)=some ((Go.Sort.bitsLen x:Nat):Int):=by
 unfold bits_Len bits_Len64;have tab:∀v:Fin 256,J9 (⟨#[0,1,2,2,3,3,3,3,4,4,4,4,4,4,4,4,5,5,5,5,5,5,5,5,5,5,5,5,5,5,5,5,6,6,6,6,6,6,6,6,6,6,6,6,6,6,6,6,6,6,6,6,6,6,6,6,6,6,6,6,6,6,6,6,7,7,7,7,7,7,7,7,7,7,7,7,7,7,7,7,7,7,7,7,7,7,7,7,7,7,7,7,7,7,7,7,7,7,7,7,7,7,7,7,7,7,7,7,7,7,7,7,7,7,7,7,7,7,7,7,7,7,7,7,7,7,7,7,8,8,8,8,8,8,8,8,8,8,8,8,8,8,8,8,8,8,8,8,8,8,8,8,8,8,8,8,8,8,8,8,8,8,8,8,8,8,8,8,8,8,8,8,8,8,8,8,8,8,8,8,8,8,8,8,8,8,8,8,8,8,8,8,8,8,8,8,8,8,8,8,8,8,8,8,8,8,8,8,8,8,8,8,8,8,8,8,8,8,8,8,8,8,8,8,8,8,8,8,8,8,8,8,8,8,8,8,8,8,8,8,8,8,8,8,8,8,8,8,8,8,8,8,8,8,8,8]⟩) (v.val:Int)=some ((Go.Sort.bitsLen v.val:Nat):Int):=by decide +kernel
 have k32:(decide (0<=32)&&decide (32<=IntKind.u64.bits))=true:=rfl;have k16:(decide (0<=16)&&decide (16<=IntKind.u64.bits))=true:=rfl;have k8:(decide (0<=8)&&decide (8<=IntKind.u64.bits))=true:=rfl;have step:∀(x k s:Nat),∃y t:Nat,((bif (decide ((x:Int)>=((2 ^ k:Nat):Int)))then some (((x/2 ^ k:Nat):Int),((s+k:Nat):Int))else some ((x:Int),(s:Int))):Option (Int×Int))=some ((y:Int),(t:Int))/\Go.Sort.bitsLen x+s=Go.Sort.bitsLen y+t/\(y<2 ^ k\/y=x/2 ^ k)/\t<=s+k:=by
  intro x k s;by_cases h:2 ^ k<=x
  ·have c:decide ((x:Int)>=((2 ^ k:Nat):Int))=true:=(by rw[aT];omega);refine⟨x/2 ^ k,s+k,by rw[c];rfl,?_,.inr rfl,aQ _⟩;have:=ZV k h;omega
  ·have c:decide ((x:Int)>=((2 ^ k:Nat):Int))=false:=(by rw[dN];omega);exact⟨x,s,by rw[c];rfl,rfl,.inl (by omega),by omega⟩
 have sh:∀(v k:Nat),((v:Int)/2 ^ (k:Int).toNat)=((v/2 ^ k:Nat):Int):=by
  intro v k;rw[Int.toNat_natCast]
  push_cast
  rfl
 have⟨y1,t1,e1,b1,c1,d1⟩:=step x 32 0;have⟨y2,t2,e2,b2,c2,d2⟩:=step y1 16 t1;have⟨y3,t3,e3,b3,c3,d3⟩:=step y2 8 t2;have s1:((bif (decide ((x:Int)>=(4294967296:Int)))then(ck ((decide (0<=32)&&decide (32<=IntKind.u64.bits))) (some (((x:Int)/2 ^ (32:Int).toNat),(32:Int))))else some ((x:Int),(0:Int))):Option (Int×Int))=some ((y1:Int),(t1:Int)):=by
  rw[k32,<- e1];rw[show ((x:Int)/2 ^ (32:Int).toNat)=((x/2 ^ 32:Nat):Int)from sh x 32];rfl
 have s2:((bif (decide ((y1:Int)>=(65536:Int)))then(ck ((decide (0<=16)&&decide (16<=IntKind.u64.bits))) (some (((y1:Int)/2 ^ (16:Int).toNat),(i64.wrap ((t1:Int)+16)))))else some ((y1:Int),(t1:Int))):Option (Int×Int))=some ((y2:Int),(t2:Int)):=by
  rw[k16,<- e2];rw[show ((y1:Int)/2 ^ (16:Int).toNat)=((y1/2 ^ 16:Nat):Int)from sh y1 16,show i64.wrap ((t1:Int)+16)=((t1+16:Nat):Int)from Pf (j:=16) (by omega)];rfl
 have s3:((bif (decide ((y2:Int)>=(256:Int)))then(ck ((decide (0<=8)&&decide (8<=IntKind.u64.bits))) (some (((y2:Int)/2 ^ (8:Int).toNat),(i64.wrap ((t2:Int)+8)))))else some ((y2:Int),(t2:Int))):Option (Int×Int))=some ((y3:Int),(t3:Int)):=by
  rw[k8,<- e3];rw[show ((y2:Int)/2 ^ (8:Int).toNat)=((y2/2 ^ 8:Nat):Int)from sh y2 8,show i64.wrap ((t2:Int)+8)=((t2+8:Nat):Int)from Pf (j:=8) (by omega)];rfl
 have hy:y3<256:=by
  have q1:(2:Nat) ^ 32=4294967296:=rfl;have q2:(2:Nat) ^ 16=65536:=rfl;have q3:(2:Nat) ^ 8=256:=rfl;rw[q1]at c1;rw[q2]at c2;rw[q3]at c3;omega
 simp only[s1,ah,s2,s3];rw[anT hy,show J9 _ (y3:Int)=_ from tab ⟨y3,hy⟩];have hb:Go.Sort.bitsLen y3<=8:=(Go.Sort.bitsLen_le_iff _ _).2 (by simpa using hy);simp only[ah];rw[pQ (by omega),Pf (by omega)];congr 2;omega
theorem Tu:D3 bA:=by
 intro L h8 hL;have hb:Go.Sort.bitsLen L<=60:=(Go.Sort.bitsLen_le_iff _ _).2 (by omega);have hp:2 ^ Go.Sort.bitsLen L<=2 ^ 60:=Nat.pow_le_pow_right (by omega) hb;unfold bA;rw[oN (by omega),Dg hL,ah];have c:(decide ((0:Int)<=((Go.Sort.bitsLen L:Nat):Int))&&decide (((Go.Sort.bitsLen L:Nat):Int)<=(IntKind.u64.bits:Int)))=true:=by
  have:(IntKind.u64.bits:Int)=64:=rfl;rw[this,aJ,aT,aT];omega
 rw[c];simp only[aj];rw[Int.toNat_natCast,Int.one_mul,show((2:Int) ^ Go.Sort.bitsLen L)=((2 ^ Go.Sort.bitsLen L:Nat):Int)by push_cast;rfl,oN (by omega)]
theorem Ts:XT bI:=by
 intro r hr;have c13:(decide (0<=13)&&decide (13<=IntKind.u64.bits))=true:=rfl;have c7:(decide (0<=7)&&decide (7<=IntKind.u64.bits))=true:=rfl;have c17:(decide (0<=17)&&decide (17<=IntKind.u64.bits))=true:=rfl;have sl:∀(v k:Nat),IntKind.u64.wrap ((v:Int)*2 ^ (k:Int).toNat)=((v*2 ^ k%18446744073709551616:Nat):Int):=by
  intro v k;rw[Int.toNat_natCast,show((v:Int)*2 ^ k)=((v*2 ^ k:Nat):Int)by push_cast;rfl];simp only[IntKind.wrap,IntKind.bits,IntKind.signed,Bool.false_and,Bool.false_eq_true,if_false];omega
 have sr:∀(v k:Nat),((v:Int)/2 ^ (k:Int).toNat)=((v/2 ^ k:Nat):Int):=by
  intro v k;rw[Int.toNat_natCast];push_cast;rfl
 have ha:r ^^^ (r*2 ^ 13%18446744073709551616)<18446744073709551616:=Nat.xor_lt_two_pow (n:=64) (by omega) (by omega);have hb:(r ^^^ (r*2 ^ 13%18446744073709551616)) ^^^ ((r ^^^ (r*2 ^ 13%18446744073709551616))/2 ^ 7)<18446744073709551616:=Nat.xor_lt_two_pow (n:=64) (by omega) (by omega);unfold bI;rw[c13,c7,c17];simp only[aj];rw[show IntKind.u64.wrap ((r:Int)*2 ^ (13:Int).toNat)=((r*2 ^ 13%18446744073709551616:Nat):Int)from sl r 13,XR hr (by omega)];rw[show (((r ^^^ (r*2 ^ 13%18446744073709551616):Nat):Int)/2 ^ (7:Int).toNat)=_ from sr _ 7,XR ha (by omega)];rw[show IntKind.u64.wrap (((((r ^^^ (r*2 ^ 13%18446744073709551616)) ^^^ ((r ^^^ (r*2 ^ 13%18446744073709551616))/2 ^ 7):Nat)):Int)*2 ^ (17:Int).toNat)=_ from sl _ 17,XR hb (by omega)];rfl
theorem VF:Go.Sort.SWO mn where
 irrefl x:=by simp[mn]
 trans x y z h1 h2:=by simp only[mn,aT]at *;omega
 ntrans x y z h1 h2:=by simp only[mn,dN]at *;omega
theorem abm:∀{l m:List Int},l.Perm m->l.Pairwise (λ x y=>mn y x=false)->m.Pairwise (λ x y=>mn y x=false)->l=m
 |[],m,h,_,_=>(List.nil_perm.1 h).symm
 |x::l,[],h,_,_=>by have:=h.length_eq;simp at this
 |x::l,y::m,h,h1,h2=>by
  have e:x=y:=by
   rw[pairwise_cons]at h1 h2;have m1:x∈y::m:=h.mem_iff.1 mem_cons_self;have m2:y∈x::l:=h.mem_iff.2 mem_cons_self;rcases aN.1 m1 with e |m1
   ·exact e
   ·rcases aN.1 m2 with e |m2
    ·exact e.symm
    ·have a:=h1.1 y m2;have b:=h2.1 x m1;simp only[mn,dN]at a b;omega
  subst e;rw[pairwise_cons]at h1 h2;rw[abm (List.Perm.cons_inv h) h1.2 h2.2]
theorem KL{α:Type}(lt:α->α->Bool)(x:α):∀ys:List α,(nI lt x ys).Perm (x::ys)
 |[]=>List.Perm.refl _
 |y::ys=>by
  simp only[nI];cases lt x y with
  |true=>exact((KL lt x ys).cons y).trans (List.Perm.swap x y ys)
  |false=>exact List.Perm.refl _
theorem NI{α:Type}(lt:α->α->Bool)(l:List α):(kY lt l).Perm l:=by
 have gen:∀(xs rs:List α),(xs.foldl (λ rs x=>nI lt x rs) rs).Perm (xs++rs):=by
  intro xs
  induction xs with
  |nil=>intro rs;exact List.Perm.refl _
  |cons x xs ih=>
   intro rs;refine(ih _).trans ?_;refine((KL lt x rs).append_left xs).trans ?_;exact List.perm_middle
 unfold kY;exact(List.reverse_perm _).trans (by simpa using gen l [])
theorem eI{α:Type}{lt:α->α->Bool}(hS:Go.Sort.SWO lt)(x:α):∀ys:List α,ys.Pairwise (λ a b=>lt a b=false)->(nI lt x ys).Pairwise λa b=>lt a b=false
 |[],_=>by simp[nI]
 |y::ys,h=>by
  have h':=pairwise_cons.1 h;simp only[nI];cases hxy:lt x y with
  |true=>
   rw[aj,pairwise_cons];refine⟨λ z hz=>?_,eI hS x ys h'.2⟩;rcases aN.1 ((KL lt x ys).mem_iff.1 hz)with rfl |hz
   ·cases hyx:lt y z with
    |false=>rfl
    |true=>have:=hS.trans _ _ _ hxy hyx;rw[hS.irrefl]at this;cases this
   ·exact h'.1 z hz
  |false=>
   rw[ak,pairwise_cons];refine⟨λ z hz=>?_,h⟩;rcases aN.1 hz with rfl |hz
   ·exact hxy
   ·exact hS.ntrans _ _ _ hxy (h'.1 z hz)
theorem gS{α:Type}{lt:α->α->Bool}(hS:Go.Sort.SWO lt)(l:List α):(kY lt l).Pairwise λx y=>lt y x=false:=by
 have gen:∀(xs rs:List α),rs.Pairwise (λ a b=>lt a b=false)->(xs.foldl (λ rs x=>nI lt x rs) rs).Pairwise λa b=>lt a b=false:=by
  intro xs
  induction xs with
  |nil=>intro rs h;exact h
  |cons x xs ih=>intro rs h;exact ih _ (eI hS x rs h)
 unfold kY;rw[List.pairwise_reverse];exact gen l [] List.Pairwise.nil
theorem aju(l:List Int):AJ mn l=kY mn l:=
 abm ((NE VF l).trans (NI mn l).symm) (Pn VF l) (gS VF l)
theorem aeE(n:Nat):∀m,gT n m=iX cmp_Less_int (λ r=>r) bA bI n m
 | 0=>rfl
 |m+1=>by
  show nK n (gT n m)=kJ cmp_Less_int (λ r=>r) bA bI n (iX cmp_Less_int (λ r=>r) bA bI n m);rw[aeE n m];generalize iX cmp_Less_int (λ r=>r) bA bI n m=rc
  kernel_rfl
theorem pW{l:List Int}(hl:l.length<1099511627776)(hn:l.length<n):nQ n l=some (kY mn l):=by
 unfold nQ o7;rw[oN (by omega),Dg (by omega),aeE];simp only[ah,aG,aj];rw[AL (lt:=mn) VF (f:=mn) (q:=λr=>r) Ux (λ _ _=>rfl) Tu Ts (by omega) hn hn,aju];rfl
theorem uV{l:List Int}(hl:l.length<1099511627776)(hn:l.length<n):pU n l=some ((),gQ l):=by
 rw[<- aew];exact ZQ (eq:=λx y=>x==y) (ne:=λx y=>x !=y) (λ x y=>by simp[bne]) hl hn
theorem Uy{l:List Int}{a:Int}(hl:l.length<1099511627776)(hn:l.length<n):Ht n l a=some (Dz (λ x=>a==x) l):=TS hl hn
theorem NJ{l:List Int}{a:Int}(hl:l.length<1099511627776)(hn:l.length<n):sF n l a=some (l.any λx=>a==x):=by
 unfold sF;rw[Uy hl hn,ah,zo]
theorem I8{l:List bZ}{φ:(bZ×Unit)->Option Bool}(p:bZ->Bool)(h:∀x∈l,φ (x,())=some (p x))(hl:l.length<1099511627776)(hn:l.length<n):sU n l φ=some (Dz p l):=iH p h hl hn
theorem I9{l:List bP}{φ:(bP×Unit)->Option Bool}(p:bP->Bool)(h:∀x∈l,φ (x,())=some (p x))(hl:l.length<1099511627776)(hn:l.length<n):kL n l φ=some (Dz p l):=iH p h hl hn
theorem RL{l:List ay}(h:l.length<1099511627776):DI l=some l:=TU (b:=32) (by omega) (by simp only[maxLen];omega)
theorem PY{l:List (List ay)}(hf:l.flatten.length<1099511627776)(hl:l.length<1099511627776)(hn:l.length<n):AO n l=some l.flatten:=Pe (ay.mk 0 0 0 0) (b:=32) hf (by omega) hl hn
theorem FK{a b:List ay}(hl:a.length<1099511627776)(hn:a.length<n):oQ n a b=some (decide (a=b)):=by
 have e:oQ n a b=Vw n (λ x1 x2:ay=>!((x1.x0==(x2.x0:Int))&&((x1.y0==(x2.y0:Int))&&((x1.x1==(x2.x1:Int))&&((x1.y1==(x2.y1:Int))&&true))))) a b:=by kernel_rfl
 rw[e];refine TW (λ x y=>?_) hl hn;obtain⟨a,b,c,d⟩:=x;obtain⟨e,f,g,h⟩:=y;simp only[ay.mk.injEq,Bool.and_true];rw[kE];simp
theorem FL{a b:List aD}(hl:a.length<1099511627776)(hn:a.length<n):wT n a b=some (decide (a=b)):=by
 have e:wT n a b=Vw n (λ x1 x2:aD=>!((x1.from_==(x2.from_:Int))&&((x1.to==(x2.to:Int))&&true))) a b:=by kernel_rfl
 rw[e];refine TW (λ x y=>?_) hl hn;obtain⟨a,b⟩:=x;obtain⟨c,d⟩:=y;simp only[aD.mk.injEq,Bool.and_true];rw[kE];simp
abbrev ry(a b:aD):Bool:=decide (a.from_<b.from_)
theorem PZ:Go.Sort.SWO ry where
 irrefl x:=by simp[ry]
 trans x y z h1 h2:=by simp only[ry,aT]at *;omega
 ntrans x y z h1 h2:=by simp only[ry,dN]at *;omega
instance:Inhabited aD:=⟨⟨0,0⟩⟩
theorem ajv(n:Nat)(rc:List aD->Int->Int->Int->((aD×aD×Unit)->Option Int)->Option (List aD))(φ:(aD×aD×Unit)->Option Int)(l:List aD)(a b d:Int):jb n rc l a b d φ=kJ (λ x y=>φ (x,y,())) (λ r=>decide (r<0)) bA bI n (λ l a b d=>rc l a b d φ) l a b d:=by kernel_rfl
theorem abn(n:Nat)(φ:(aD×aD×Unit)->Option Int):∀m l a b d,eD n m l a b d φ=iX (λ x y=>φ (x,y,())) (λ r=>decide (r<0)) bA bI n m l a b d
 | 0,l,a,b,d=>rfl
 |m+1,l,a,b,d=>by
  have e:(λ l a b d=>eD n m l a b d φ)=iX (λ x y=>φ (x,y,())) (λ r=>decide (r<0)) bA bI n m:=by
   funext l a b d;exact abn n φ m l a b d
  show jb n (eD n m) l a b d φ=kJ (λ x y=>φ (x,y,())) (λ r=>decide (r<0)) bA bI n (iX (λ x y=>φ (x,y,())) (λ r=>decide (r<0)) bA bI n m) l a b d;rw[<- e];exact ajv n (eD n m) φ l a b d
theorem Mq{l:List aD}{φ:(aD×aD×Unit)->Option Int}(f:aD->aD->Int)(hφ:∀x y,φ (x,y,())=some (f x y))(hf:∀x y,decide (f x y<0)=ry x y)(hl:l.length<1099511627776)(hn:l.length<n):qh n l φ=some (AJ ry l):=by
 unfold qh nZ;rw[oN (by omega),Dg (by omega)];simp only[ah,aG,aj,abn];rw[AL (lt:=ry) PZ (f:=f) (q:=λr=>decide (r<0)) hφ hf Tu Ts (by omega) hn hn];rfl
theorem aio{V O:Type}{step:V->Option (V⊕O)}(Inv:V->Prop)(Post:O->Prop)(μ:V->Nat)
 (h:∀v,Inv v->(∃ v',step v=some (.inl v')/\Inv v'/\μ v'< μ v)\/∃o,step v=some (.inr o)/\Post o):∀(n:Nat)(v:V),Inv v->μ v<n->∃o,iter step n v=some o/\Post o
 | 0,_,_,hn=>absurd hn (Nat.not_lt_zero _)
 |n+1,v,hi,hn=>by
  rcases h v hi with ⟨v',h1,h2,h3⟩ |⟨o,h1,h2⟩
  ·rw[dx h1];exact aio Inv Post μ h n v' h2 (by omega)
  ·exact⟨o,bJ h1,h2⟩
theorem KM:∀(N:Nat)(l:List Nat),l.Nodup->(∀ y∈l,y<N)->l.length<=N
 | 0,[],_,_=>aQ _
 | 0,x::l,_,h=>absurd (h x (by simp)) (by omega)
 |N+1,l,hn,h=>by
  have h1:=KM N (l.filter λy=>decide (y≠N)) (hn.filter _) (λ y hy=>by
   rw[List.mem_filter]at hy;have:=h y hy.1;have:=hy.2;simp only[aT]at this;omega)
  have h2:=List.length_eq_countP_add_countP (λ y=>decide (y≠N)) (l:=l);rw[List.countP_eq_length_filter]at h2;have h3:List.countP (λ a=>decide ¬(decide (a≠N)=true)) l=l.count N:=by
   rw[List.count];refine List.countP_congr λy _=>?_;simp
  have h4:=List.nodup_iff_count.1 hn N;omega
def ZW(us:List (List Int))(N:Nat):Prop:=us.length=N/\N<=4000000/\∀l∈us,l.length<=4000000/\∀k∈l,0<=k/\k<(N:Int)
structure BI(us:List (List Int))(N to h:Nat)(d:List Int)(F:List Nat):Prop where
 dl:d.length=N
 nd:F.Nodup
 rg:∀x∈F,x<N
 mem:∀i:Nat,i<N->(0<=d.getD i 0↔i∈F)
 ub:∀j x:Nat,F[j]? =some x->d.getD x 0<=(j:Int)
 pre:∀j x:Nat,F[j]? =some x->0<j->∃p y:Nat,p<j/\F[p]? =some y/\(y:Int)∈us.getD x []/\d.getD y 0=d.getD x 0 -1
 hd:F[0]? =some to/\d.getD to 0=0
 hh:h<=F.length
 cl:∀p y:Nat,p<h->F[p]? =some y->∀i:Nat,i<N->(y:Int)∈us.getD i []->0<=d.getD i 0
theorem BI.len{us:List (List Int)}{N to h:Nat}{d:List Int}{F:List Nat}(b:BI us N to h d F):F.length<=N:=by exact KM N F b.nd b.rg
theorem BI.push{us:List (List Int)}{N to h:Nat}{d:List Int}{F:List Nat}(b:BI us N to h d F){i x p:Nat}(hi:i<N)(hd:d.getD i 0<0)(hp:F[p]? =some x)(hx:(x:Int)∈us.getD i []):
 BI us N to h (d.set i (d.getD x 0+1)) (F++[i]):=by
 have hiF:i∉F:=λhm=>by have:=(b.mem i hi).2 hm;omega
 have Pi:x∈F:=cB hp;have hne:∀y,y∈F->i≠y:=λy hy e=>hiF (e ▸ hy);have hset:∀y,y∈F->(d.set i (d.getD x 0+1)).getD y 0=d.getD y 0:=λy hy=>by simp only[List.getD,List.getElem?_set_ne (hne y hy)]
 have tU:(d.set i (d.getD x 0+1)).getD i 0=d.getD x 0+1:=by
  have:i<d.length:=by rw[b.dl];exact hi
  simp[List.getD,this]
 have hx0:0<=d.getD x 0:=(b.mem x (b.rg x Pi)).2 Pi;have hlt:p<F.length:=(dm.1 hp).1;refine⟨by simpa using b.dl,?_,?_,?_,?_,?_,?_,?_,?_⟩
 ·rw[List.nodup_append];exact⟨b.nd,by simp,λa ha c hc=>by simp at hc;subst hc;exact λe=>hiF (e ▸ ha)⟩
 ·intro y hy;rw[aX]at hy;rcases hy with hy |hy
  ·exact b.rg y hy
  ·simp at hy;omega
 ·intro j hj;by_cases e:i=j
  ·subst e;rw[tU];exact⟨λ _=>by simp,λ_=>by omega⟩
  ·simp only[List.getD,List.getElem?_set_ne e];rw[aX];have:=b.mem j hj;simp only[List.getD]at this;rw[this];simp[Ne.symm e]
 ·intro j y hy;rw[List.getElem?_append]at hy;split at hy
  ·rw[hset y (cB hy)];exact b.ub j y hy
  ·rename_i hj;have:y=i/\j=F.length:=by
    cases h:j -F.length with
    |zero=>rw[h]at hy;simp at hy;exact⟨hy.symm,by omega⟩
    |succ z=>rw[h]at hy;simp at hy
   obtain⟨rfl,rfl⟩:=this;rw[tU];have:=b.ub p x hp;omega
 ·intro j y hy hj;rw[List.getElem?_append]at hy;split at hy
  ·have⟨p',y',h1,h2,h3,h4⟩:=b.pre j y hy hj;exact⟨p',y',h1,by rw[List.getElem?_append_left (by have:=(dm.1 h2).1;exact this)];exact h2,h3,by rw[hset y' (cB h2),hset y (cB hy)];exact h4⟩
  ·rename_i hj';have:y=i/\j=F.length:=by
    cases h:j -F.length with
    |zero=>rw[h]at hy;simp at hy;exact⟨hy.symm,by omega⟩
    |succ z=>rw[h]at hy;simp at hy
   obtain⟨rfl,rfl⟩:=this;exact⟨p,x,hlt,by rw[List.getElem?_append_left hlt];exact hp,hx,by rw[tU,hset x Pi];omega⟩
 ·have h0:=(dm.1 b.hd.1).1;exact⟨by rw[List.getElem?_append_left h0];exact b.hd.1,by rw[hset _ (cB b.hd.1)];exact b.hd.2⟩
 ·have:=b.hh;simp;omega
 ·intro p' y hp' hy j hj hm;rw[List.getElem?_append_left (by have:=b.hh;omega)]at hy;have:=b.cl p' y hp' hy j hj hm;rw[hset j ((b.mem j hj).1 this)];exact this
theorem pb{α:Type}(o:Nat)(l:List α):WT o l=l.drop o:=by cases o<;>simp[WT]
def BS(us:List (List Int))(N to h x:Nat):(Int×Int×List Int×List Int)->Prop
 |(v4,v5,d,v7)=>∃(o i:Nat)(F:List Nat),v4=(o:Int)/\v5=(i:Int)/\o<=v7.length/\v7.drop o=(F.drop (h+1)).map (λ k:Nat=>(k:Int))/\i<=N/\BI us N to h d F/\F[h]? =some x/\∀i',i'<i->(x:Int)∈us.getD i' []->0<=d.getD i' 0
theorem amx{n N to h x:Nat}{a0:pR}{r1:List Int}(hg:ZW a0.uses N)(hr:r1.length=N)(hn:4000001<=n)(v:Int×Int×List Int×List Int)(hv:BS a0.uses N to h x v):
 (∃ v',fV n a0 r1 x v=some (.inl v')/\BS a0.uses N to h x v'/\N -v'.2.1.toNat<N -v.2.1.toNat)\/
 ∃q,fV n a0 r1 x v=some (.inr q)/\∃(o:Nat)(F:List Nat),q.1=(o:Int)/\o<=q.2.2.length/\q.2.2.drop o=(F.drop (h+1)).map (λ k:Nat=>(k:Int))/\BI a0.uses N to (h+1) q.2.1 F:=by
 obtain⟨v4,v5,d,v7⟩:=v;obtain⟨o,i,F,rfl,rfl,ho,hq,hi,hb,hx,hc⟩:=hv;have hx':x<N:=hb.rg x (cB hx);have C3:=hg.1;have hdl:=hb.dl;by_cases hlt:i<N
 ·left;have uu:i<a0.uses.length:=by omega
  have hl:=hg.2.2 a0.uses[i] (getElem_mem uu);have hcon:=NJ (n:=n) (l:=a0.uses[i]) (a:=(x:Int)) (by omega) (by omega);have hud:a0.uses.getD i []=a0.uses[i]:=by simp[List.getD,uu]
  have hdi:d[i]'(by omega)=d.getD i 0:=by simp[List.getD,show i<d.length by omega]
  have C4:d[x]'(by omega)=d.getD x 0:=by simp[List.getD,show x<d.length by omega]
  simp only[fV,show decide ((i:Int)<((a0.uses.length:Int)))=true from by simp;omega,aj,bB uu,ah,bE (show i<r1.length by omega),bE (show x<r1.length by omega),
   bM (show i<d.length by omega),bM (show x<d.length by omega),hcon,hdi,C4]
  have hFl:=hb.len;have hN:=hg.2.1;have hlen:v7.length -o=F.length -(h+1):=by have:=congrArg List.length hq;simpa using this
  have hmx:maxLen=9223372036854775807:=rfl;by_cases hA:d.getD i 0<0/\(x:Int)∈a0.uses[i]
  ·have h1:(a0.uses[i].any λy=>(x:Int)==y)=true:=any_eq_true.2 ⟨_,hA.2,by simp⟩;have hx0:0<=d.getD x 0:=(hb.mem x hx').2 (cB hx);have hxu:=hb.ub h x hx;have Rd:h<F.length:=(dm.1 hx).1;have hap:bR (v7.drop o).length (v7.length -o) (sub [(i:Int)] 0 1).length 1 8=true:=(by simp[bR,sub];omega);have hw:i64.wrap (d.getD x 0+1)=d.getD x 0+1:=bU (by omega) (by omega);refine⟨(((0:Nat):Int),((i+1:Nat):Int),d.set i (d.getD x 0+1),v7.drop o++[(i:Int)]),?_,?_,by show N -((i+1:Nat):Int).toNat<N -(i:Int).toNat;omega⟩
   ·simp only[hA.1,decide_true,aj,ah,h1,Int.toNat_natCast,pb,hap,fG,hw,aW i];simp[bk,sub]
   ·refine⟨0,i+1,F++[i],rfl,rfl,Nat.zero_le _,?_,by omega,hb.push hlt hA.1 hx (by rw[hud];exact hA.2),by rw[List.getElem?_append_left Rd];exact hx,?_⟩
    ·rw[List.drop_zero,hq,List.drop_append_of_le_length (by omega)];simp
    ·intro i' hi' hm;have hpush:=hb.push hlt hA.1 hx (by rw[hud];exact hA.2);by_cases e:i'=i
     ·subst e;exact(hpush.mem i' hlt).2 (by simp)
     ·have:=hc i' (by omega) hm;exact(hpush.mem i' (by omega)).2 (List.mem_append_left _ ((hb.mem i' (by omega)).1 this))
  ·have hB:(bif decide (d.getD i 0<0)then some (a0.uses[i].any λy=>(x:Int)==y)else some false)=some false:=by
    by_cases h2:d.getD i 0<0
    ·simp only[h2,decide_true,aj,aA];cases hc:(a0.uses[i].any λy=>(x:Int)==y)with
     |false=>rfl
     |true=>
      obtain⟨y,hy,e⟩:=any_eq_true.1 hc;obtain rfl:(x:Int)=y:=(by simpa using e);exact absurd ⟨h2,hy⟩ hA
    ·simp only[h2,decide_false,ak]
   refine⟨((o:Int),((i+1:Nat):Int),d,v7),?_,?_,by show N -((i+1:Nat):Int).toNat<N -(i:Int).toNat;omega⟩
   ·rw[hB];simp only[ah,ak,Int.toNat_natCast,Rz (show o+(v7.length -o)=v7.length by omega),aj,aW i]
   ·refine⟨o,i+1,F,rfl,rfl,ho,hq,by omega,hb,hx,λi' hi' hm=>?_⟩;by_cases e:i'=i
    ·subst e;rw[hud]at hm;exact Int.not_lt.1 λh2=>hA ⟨h2,hm⟩
    ·exact hc i' (by omega) hm
 ·right;have hiN:i=N:=by omega
  have Rd:h<F.length:=(dm.1 hx).1;refine⟨((o:Int),d,v7),?_,o,F,rfl,ho,hq,?_⟩
  ·simp only[fV,show decide ((i:Int)<((a0.uses.length:Int)))=false from by simp;omega,ak,Int.toNat_natCast,Rz (show o+(v7.length -o)=v7.length by omega),aj]
  ·refine⟨hb.dl,hb.nd,hb.rg,hb.mem,hb.ub,hb.pre,hb.hd,Rd,λp y hp hy j hj hm=>?_⟩;by_cases e:p=h
   ·subst e;rw[hx]at hy;cases hy;exact hc j (by omega) hm
   ·exact hb.cl p y (by omega) hy j hj hm
def BO(us:List (List Int))(N to h:Nat):(Int×List Int×List Int)->Prop
 |(v1,d,v3)=>∃(o:Nat)(F:List Nat),v1=(o:Int)/\o<=v3.length/\v3.drop o=(F.drop h).map (λ k:Nat=>(k:Int))/\BI us N to h d F
theorem amy{n N to h:Nat}{a0:pR}{r1:List Int}(hg:ZW a0.uses N)(hr:r1.length=N)(hn:4000001<=n)(v:Int×List Int×List Int)(hv:BO a0.uses N to h v):
 (∃ v',dW n a0 r1 v=some (.inl v')/\BO a0.uses N to (h+1) v')\/∃d,dW n a0 r1 v=some (.inr d)/\∃F,BI a0.uses N to F.length d F:=by
 obtain⟨v1,d,v3⟩:=v;obtain⟨o,F,rfl,ho,hq,hb⟩:=hv;have hlen:v3.length -o=F.length -h:=by have:=congrArg List.length hq;simpa using this
 by_cases hlt:h<F.length
 ·left;obtain⟨x,hx⟩:∃x,F[h]? =some x:=⟨_,dI hlt⟩;have hox:v3[o]? =some (x:Int):=by
   have:=congrArg (λ l=>l[0]?) hq;simpa[hx]using this
  have hdr:v3.drop (o+1)=(F.drop (h+1)).map (λ k:Nat=>(k:Int)):=by
   have:=congrArg (λ l=>l.drop 1) hq;simpa using this
  obtain⟨q,hq1,o2,F2,hq2,hq3,hq4,hq5⟩:=aio (BS a0.uses N to h x) (λ q:Int×List Int×List Int=>∃(o:Nat)(F:List Nat),q.1=(o:Int)/\o<=q.2.2.length/\q.2.2.drop o=(F.drop (h+1)).map (λ k:Nat=>(k:Int))/\BI a0.uses N to (h+1) q.2.1 F)
   (λ v=>N -v.2.1.toNat) (amx (r1:=r1) hg hr hn) n (((o+1:Nat):Int),0,d,v3) ⟨o+1,0,F,rfl,rfl,by omega,hdr,Nat.zero_le _,hb,hx,λi' hi'=>absurd hi' (Nat.not_lt_zero _)⟩ (by have:=hg.2.1;simp;omega)
  obtain⟨w1,w2,w3⟩:=q;simp only at hq2 hq3 hq4 hq5;subst hq2;refine⟨((o2:Int),w2,w3),?_,o2,F2,rfl,hq3,hq4,hq5⟩;have hat:bo v3 ((o:Int)+0)=some (x:Int):=by rw[Int.add_zero,L5];exact hox
  simp only[dW,Int.toNat_natCast,show decide (((v3.length -o:Nat):Int)>0)=true from by simp;omega,aj,show b9 0 (v3.length -o)=true from by simp[b9];omega,hat,ah,
   tK (show (0:Int)<=1 by omega) (show (1:Int)<=((v3.length -o:Nat):Int)by omega) (Int.le_refl _),Rz (show o+1+(v3.length -o -1)=v3.length by omega),hq1,Rz (show o2+(w3.length -o2)=w3.length by omega)]
 ·right;have hhF:h=F.length:=by have:=hb.hh;omega
  refine⟨d,?_,F,hhF ▸ hb⟩;simp only[dW,Int.toNat_natCast,show decide (((v3.length -o:Nat):Int)>0)=false from by simp;omega,ak]
theorem dZ{V O:Type}{step:V->Option (V⊕O)}(Inv:Nat->V->Prop)(Post:O->Prop)(K:Nat)(hK:∀k v,Inv k v->k<=K)
 (h:∀k v,Inv k v->(∃ v',step v=some (.inl v')/\Inv (k+1) v')\/∃o,step v=some (.inr o)/\Post o):∀(n k:Nat)(v:V),Inv k v->K<n+k->∃o,iter step n v=some o/\Post o
 | 0,k,v,hi,hn=>absurd (hK k v hi) (by omega)
 |n+1,k,v,hi,hn=>by
  rcases h k v hi with ⟨v',h1,h2⟩ |⟨o,h1,h2⟩
  ·rw[dx h1];exact dZ Inv Post K hK h n (k+1) v' h2 (by omega)
  ·exact⟨o,bJ h1,h2⟩
theorem acJ{n N to:Nat}{a0:pR}(hg:ZW a0.uses N)(hd:a0.defs.length=N)(hn:4000002<=n)(ht:to<N):∃d F,jS n a0 to=some d/\BI a0.uses N to F.length d F:=by
 have hN:=hg.2.1;have hr:rP (sub ([(-1)]:List Int) 0 1) (N:Int)=some (List.replicate N (-1)):=by
  show(ck (decide (0<=(N:Int))&&decide ((N:Int)<=1000000000000)) (some (List.replicate (N:Int).toNat (-1))))=_;rw[show decide (0<=(N:Int))=true by simp,show decide ((N:Int)<=1000000000000)=true by simp;omega];rfl
 have hlr:(List.replicate N (-1:Int)).length=N:=List.length_replicate;have hb0:BI a0.uses N to 0 ((List.replicate N (-1:Int)).set to 0) [to]:=by
  have hto:((List.replicate N (-1:Int)).set to 0).getD to 0=0:=by simp[List.getD,ht]
  refine⟨by simp,by simp,λx hx=>by simp at hx;omega,λi hi=>?_,λj x hx=>?_,λj x hx hj=>?_,⟨rfl,hto⟩,by simp,λp y hp=>absurd hp (Nat.not_lt_zero _)⟩
  ·by_cases e:to=i
   ·subst e;rw[hto];simp
   ·simp only[List.getD,List.getElem?_set_ne e];simp[hi,Ne.symm e]
  ·cases j with
   |zero=>simp at hx;subst hx;rw[hto];simp
   |succ j=>simp at hx
  ·cases j with
   |zero=>omega
   |succ j=>simp at hx
 obtain⟨d,h1,F,h2⟩:=dZ (step:=dW n a0 (List.replicate N (-1))) (λ h v=>BO a0.uses N to h v) (λ d=>∃F,BI a0.uses N to F.length d F) N (λ h v ⟨_,_,_,_,_,hb⟩=>Nat.le_trans hb.hh hb.len) (λ h v hv=>amy (n:=n) (r1:=List.replicate N (-1)) hg hlr (by omega) v hv) n 0
  (((0:Nat):Int),(List.replicate N (-1:Int)).set to 0,[(to:Int)]) ⟨0,[to],rfl,Nat.zero_le _,rfl,hb0⟩ (by omega)
 refine⟨d,F,?_,h2⟩;have hdl:d.length=N:=h2.dl;have h1':iter (dW n a0 (List.replicate N (-1))) n ((0:Int),(List.replicate N (-1:Int)).set to 0,[(to:Int)])=some d:=h1;simp only[jS,hd,hr,ah,hlr,bE ht,bM (show to<(List.replicate N (-1:Int)).length by omega),aj,show(((0:Nat):Int)+(to:Int)).toNat=to by omega,h1,h1'];simp[bk,sub,hdl];exact take_of_length_le (Nat.le_of_eq hdl)
def Nr(d:List Int)(l:List Int)(w:Int):Prop:=
 (w= -1/\∀k∈l,d.getD k.toNat 0<0)\/(w∈l/\0<=d.getD w.toNat 0/\∀k∈l,0<=d.getD k.toNat 0->d.getD w.toNat 0<=d.getD k.toNat 0)
theorem Nr.snoc{d l:List Int}{w k:Int}(h:Nr d l w)(hk:0<=k)(hl:∀x∈l,0<=x):Nr d (l++[k]) (if 0<=d.getD k.toNat 0/\(w<0\/d.getD k.toNat 0<d.getD w.toNat 0)then k else w):=by
 split
 ·rename_i h1;refine .inr ⟨by simp,h1.1,λz hz h0=>?_⟩;rw[aX]at hz;rcases hz with hz |hz
  ·rcases h with ⟨rfl,h⟩ |⟨hw,hw0,h⟩
   ·have:=h z hz;omega
   ·have h2:=h z hz h0;have:=hl w hw;rcases h1.2 with h3 |h3<;>omega
  ·simp at hz;subst hz;exact Int.le_refl _
 ·rename_i h1;rcases h with ⟨rfl,h⟩ |⟨hw,hw0,h⟩
  ·refine .inl ⟨rfl,λz hz=>?_⟩;rw[aX]at hz;rcases hz with hz |hz
   ·exact h z hz
   ·simp at hz;subst hz;exact Int.not_le.1 λh2=>h1 ⟨h2,.inl (by omega)⟩
  ·refine .inr ⟨List.mem_append_left _ hw,hw0,λz hz h0=>?_⟩;rw[aX]at hz;rcases hz with hz |hz
   ·exact h z hz h0
   ·simp at hz;subst hz;exact Int.not_lt.1 λh2=>h1 ⟨h0,.inr h2⟩
theorem amz{n N:Nat}{d l:List Int}(hd:d.length=N)(hl:l.length<=4000000)(hr:∀k∈l,0<=k/\k<(N:Int))(hn:4000001<=n):∃w,iter (iM d l) n ((-1:Int),(0:Int))=some w/\Nr d l w:=by
 refine dZ (λ i (v:Int×Int)=>i<=l.length/\v.2=(i:Int)/\Nr d (l.take i) v.1) (λ w=>Nr d l w) l.length (λ k v h=>h.1) ?_ n 0 _ ⟨Nat.zero_le _,rfl,.inl ⟨rfl,by simp⟩⟩ (by omega);rintro i ⟨v3,v4⟩ ⟨hi,rfl,hN⟩;by_cases hlt:i<l.length
 ·left;have hk:=hr l[i] (getElem_mem hlt);obtain⟨k,hk2⟩:=Int.eq_ofNat_of_zero_le hk.1;have hkN:k<d.length:=by omega
  have GW:d[k]=d.getD k 0:=by simp[List.getD,hkN]
  have htk:l.take (i+1)=l.take i++[l[i]]:=by rw[List.take_add_one,dI hlt];rfl
  have hlk:∀x∈l.take i,0<=x:=λx hx=>(hr x (List.mem_of_mem_take hx)).1;have hsn:=hN.snoc hk.1 hlk;refine⟨(if 0<=d.getD (l[i]).toNat 0/\(v3<0\/d.getD (l[i]).toNat 0<d.getD v3.toNat 0)then l[i]else v3,((i+1:Nat):Int)),?_,hlt,rfl,by rw[htk];exact hsn⟩;simp only[iM,show decide ((i:Int)<(l.length:Int))=true from by simp;omega,aj,bB hlt,ah,hk2,bE hkN,bM hkN,GW,Int.toNat_natCast,aW i];by_cases h0:0<=d.getD k 0
  ·by_cases h1:v3<0
   ·simp only[h0,h1,ge_iff_le,decide_true,aj,ah,true_and,true_or,if_true]
   ·have hv:v3∈l.take i:=by
     rcases hN with ⟨rfl,_⟩ |⟨h,_⟩
     ·omega
     ·exact h
    have yz:=hr v3 (List.mem_of_mem_take hv);obtain⟨z,hz⟩:=Int.eq_ofNat_of_zero_le yz.1;subst hz;have C1:z<d.length:=(by omega);have hgz:d[z]=d.getD z 0:=(by simp[List.getD,C1]);simp only[h0,ge_iff_le,decide_true,aj,h1,decide_false,ak,bE C1,bM C1,ah,hgz,Int.toNat_natCast,true_and,false_or];by_cases h2:d.getD k 0<d.getD z 0
    ·simp only[h2,decide_true,aj,if_true,ah]
    ·simp only[h2,decide_false,ak,if_false,ah]
  ·simp only[h0,ge_iff_le,decide_false,ak,ah,false_and,if_false]
 ·right;refine⟨v3,?_,?_⟩
  ·simp only[iM,show decide ((i:Int)<(l.length:Int))=false from by simp;omega,ak]
  ·rw[take_of_length_le (by omega)]at hN;exact hN
theorem BI.step{us:List (List Int)}{N to h:Nat}{d:List Int}{F:List Nat}(b:BI us N to h d F){x:Nat}(hx:x<N)(hne:x≠to)(h0:0<=d.getD x 0):∃y:Nat,(y:Int)∈us.getD x []/\d.getD y 0=d.getD x 0 -1/\0<=d.getD y 0:=by
 obtain⟨j,hj,hjx⟩:=mem_iff_getElem.1 ((b.mem x hx).1 h0);have hj':F[j]? =some x:=by rw[dI hj,hjx]
 have hj0:0<j:=by
  cases j with
  |zero=>rw[b.hd.1]at hj';cases hj';exact absurd rfl hne
  |succ j=>exact Nat.succ_pos _
 have⟨p,y,_,h2,h3,h4⟩:=b.pre j x hj' hj0;have hyF:=cB h2;exact⟨y,h3,h4,(b.mem y (b.rg y hyF)).2 hyF⟩
theorem ajw{n N fr:Nat}{a1:List fK}{us:List (List Int)}(hg:ZW us N)(hd:a1.length=N)(hn:4000003<=n)(hf:fr<N):∃d F c,BI us N fr F.length d F/\jU n fr a1 us=some (a1,us,c)/\c.length<=N+1/\(c=[]->∀k∈us.getD fr [],d.getD k.toNat 0<0):=by
 obtain⟨d,F,hdi,hb⟩:=acJ (n:=n) (a0:=pR.mk a1 us) hg hd (by omega) hf;have hN:=hg.2.1;have C3:=hg.1;have hmx:maxLen=9223372036854775807:=rfl;have hloop:∃o,iter (lq n fr a1 us d) n ((fr:Int),([]:List ByteArray))=some o/\∃c,o= .inr (a1,us,c)/\c.length<=N+1/\(c=[]->∀k∈us.getD fr [],d.getD k.toNat 0<0):=by
  refine dZ (λ k (v:Int×List ByteArray)=>∃at_:Nat,v.1=(at_:Int)/\at_<N/\v.2.length=k/\k<=N/\((k=0/\at_=fr)\/(0<k/\at_≠fr/\0<=d.getD at_ 0/\d.getD at_ 0+k<=N))) _ N (λ k v ⟨_,_,_,_,h,_⟩=>h) ?_ n 0 _ ⟨fr,rfl,hf,rfl,Nat.zero_le _,.inl ⟨rfl,rfl⟩⟩ (by omega);rintro k ⟨v1,v2⟩ ⟨x,rfl,hx,hv2,hkN,hst⟩;simp only at hv2;have hxa:x<a1.length:=by omega
  have hxu:x<us.length:=by omega
  have hl:=hg.2.2 us[x] (getElem_mem hxu);obtain⟨w,hw,hnr⟩:=amz (n:=n) (d:=d) (l:=us[x]) hb.dl hl.1 hl.2 (by omega);have hgu:us.getD x []=us[x]:=by simp[List.getD,hxu]
  have hap:bR v2.length v2.length (sub [a1[x].name] 0 1).length 1 16=true:=by simp[bR,sub];omega
  simp only[lq,bB hxa,bB hxu,ah,hap,aj,fG,hw];have hsl:(v2++sub [a1[x].name] 0 1).length=k+1:=by simp[sub,hv2]
  have hne:((v2++sub [a1[x].name] 0 1).length==0)=false:=by rw[hsl];simp
  rcases hnr with ⟨rfl,hno⟩ |⟨hwm,hw0,hmin⟩
  ·right;refine⟨.inr (a1,us,[]),by simp[bk],[],rfl,by simp,λ_=>?_⟩;rcases hst with ⟨_,rfl⟩ |⟨_,Pc,hx0,_⟩
   ·rw[hgu];exact hno
   ·have⟨y,hy,_,hy0⟩:=hb.step hx Pc hx0;have hy':(y:Int)∈us[x]:=(by rw[<- hgu];exact hy);have:=hno _ hy';simp only[Int.toNat_natCast]at this;omega
  ·have hwr:=hl.2 w hwm;obtain⟨z,rfl⟩:=Int.eq_ofNat_of_zero_le hwr.1;simp only[Int.toNat_natCast]at hw0 hmin;by_cases hzf:z=fr
   ·right;subst hzf;refine⟨.inr (a1,us,v2++sub [a1[x].name] 0 1),?_,_,rfl,by omega,λh=>by rw[h]at hsl;simp at hsl⟩;simp only[show decide ((z:Int)<0)=false from by simp,ak,beq_self_eq_true,aj,hne,Bool.not_false,Bool.true_and,aG,Option.map_some]
   ·left;have C1:z<N:=(by omega);have hb1:d.getD z 0+((k+1:Nat):Int)<=N:=by
     rcases hst with ⟨hk0,rfl⟩ |⟨_,Pc,hx0,hle⟩
     ·have hzF:=(hb.mem z C1).1 hw0;obtain⟨j,hj,hjz⟩:=mem_iff_getElem.1 hzF;have h3:=hb.ub j z (by rw[dI hj,hjz]);have:=hb.len;omega
     ·have⟨y,hy,hyd,hy0⟩:=hb.step hx Pc hx0;have:=hmin y (by rw[<- hgu];exact hy) (by simpa using hy0);simp only[Int.toNat_natCast]at this;omega
    refine⟨((z:Int),v2++sub [a1[x].name] 0 1),?_,z,rfl,C1,hsl,by omega,.inr ⟨Nat.succ_pos _,hzf,hw0,hb1⟩⟩;simp only[show decide ((z:Int)<0)=false from by simp,ak,show((z:Int)==(fr:Int))=false from by simp;omega,aG,aj]
 obtain⟨o,h1,c,rfl,h2⟩:=hloop;refine⟨d,F,c,hb,?_,h2⟩;simp only[jU,hdi,ah,h1];simp[bk]
theorem acK(a b:ByteArray):∃r,oo a b=some r:=by
 simp only[oo,cmp_isNaN_string,ah];cases (!a.toList==a.toList)<;>cases (!b.toList==b.toList)<;>cases WO a b<;>cases (a.toList==b.toList)<;>exact⟨_,rfl⟩
theorem acL{a b:List ByteArray}(ha:a.length<=5000000)(hn:5000001<=n):∃r,mq n a b=some r:=by
 obtain⟨o,h,_⟩:=dZ (step:=mh a b) (λ i (v:Int)=>v=(i:Int)/\i<=a.length) (λ _=>True) a.length (λ k v h=>h.2) (by
  rintro i v ⟨rfl,hi⟩;by_cases hlt:i<a.length
  ·simp only[mh,show decide ((i:Int)<(a.length:Int))=true from by simp;omega,aj,bB hlt,ah];by_cases hb:i<b.length
   ·have⟨r,hr⟩:=acK a[i] b[i];simp only[show decide ((i:Int)>=(b.length:Int))=false from by simp;omega,ak,bB hb,ah,hr];cases hr0:(r !=(0:Int))with
    |true=>exact .inr ⟨_,rfl,trivial⟩
    |false=>exact .inl ⟨_,rfl,by rw[aR (by omega)],by omega⟩
   ·simp only[show decide ((i:Int)>=(b.length:Int))=true from by simp;omega,aj];exact .inr ⟨_,rfl,trivial⟩
  ·simp only[mh,show decide ((i:Int)<(a.length:Int))=false from by simp;omega,ak];exact .inr ⟨_,rfl,trivial⟩) n 0 0 ⟨rfl,Nat.zero_le _⟩ (by omega)
 simp only[mq,h];cases o with
 |inl u=>cases u;simp only[dP];cases decide ((a.length:Int)<(b.length:Int))<;>exact⟨_,rfl⟩
 |inr r=>exact⟨r,by simp⟩
def sA(us:List (List Int))(N j:Nat):Prop:=∃d F,BI us N j F.length d F/\∀k∈us.getD j [],d.getD k.toNat 0<0
theorem aeF{n N:Nat}{a0:List fK}{us:List (List Int)}(hg:ZW us N)(hd:a0.length=N)(hn:5000003<=n):∃c,jf n a0 us=some (a0,us,c)/\(c=[]->∀j,j<N->sA us N j):=by
 have hN:=hg.2.1
 obtain⟨o,h1,c,rfl,h2⟩:=dZ (step:=ig n a0) (λ i (v:Int×List fK×List (List Int)×List ByteArray)=>∃c,v=((i:Int),a0,us,c)/\i<=N/\c.length<=N+1/\(c=[]->∀j,j<i->sA us N j))
  (λ o=>∃c,o=(a0,us,c)/\(c=[]->∀j,j<N->sA us N j)) N (λ k v ⟨_,_,h,_⟩=>h) (by
  rintro i v ⟨c,rfl,hi,hcl,hc⟩;by_cases hlt:i<N
  ·left;obtain⟨d,F,c2,hb,hci,P2,hc2⟩:=ajw (n:=n) (a1:=a0) hg hd (by omega) hlt;simp only[ig,show decide ((i:Int)<(a0.length:Int))=true from by simp;omega,aj,hci,ah,aW i,cZ,aG];have hfin:∀c':List ByteArray,c'.length<=N+1->(c'=[]->c=[]/\c2=[])->∃c'',(((i+1:Nat):Int),a0,us,c')=(((i+1:Nat):Int),a0,us,c'')/\i+1<=N/\c''.length<=N+1/\(c''=[]->∀j,j<i+1->sA us N j):=λc' hl' he=>
    ⟨c',rfl,hlt,hl',λe j hj=>by
     have⟨e1,e2⟩:=he e;by_cases h:j=i
     ·subst h;exact⟨d,F,hb,hc2 e2⟩
     ·exact hc e1 j (by omega)⟩
   obtain⟨r,hr⟩:=acL (n:=n) (a:=c2) (b:=c) (by omega) (by omega);cases h0:(c2.length==0)with
   |true=>
    have e2:c2=[]:=List.eq_nil_of_length_eq_zero (by simpa using h0);exact⟨_,by simp only[aj,ah],hfin c hcl λe=>⟨e,e2⟩⟩
   |false=>
    have hne:c2≠[]:=λe=>(by rw[e]at h0;simp at h0);simp only[ak,ah];have key:∃b,(bif c.length==0 then some true else bif decide ((c2.length:Int)<(c.length:Int))then some true else bif(c2.length:Int)==(c.length:Int)then(mq n c2 c).bind λr2=>some (decide (r2<0))else some false)=some b/\(c.length=0->b=true):=by
     cases h3:(c.length==0)with
     |true=>exact⟨true,rfl,λ_=>rfl⟩
     |false=>
      have hcn:c.length≠0:=(by simpa using h3);simp only[ak,hr,ah];cases decide ((c2.length:Int)<(c.length:Int))<;>cases ((c2.length:Int)==(c.length:Int))<;>exact⟨_,rfl,λe=>absurd e hcn⟩
    obtain⟨b,hb1,hb2⟩:=key;rw[hb1];cases b with
    |true=>exact⟨_,by simp only[aj,ah],hfin c2 P2 λe=>absurd e hne⟩
    |false=>exact⟨_,by simp only[ak,ah],hfin c hcl λe=>by rw[e]at hb2;exact absurd (hb2 rfl) (by simp)⟩
  ·right;refine⟨(a0,us,c),?_,c,rfl,λe j hj=>hc e j (by omega)⟩;simp only[ig,show decide ((i:Int)<(a0.length:Int))=false from by simp;omega,ak,aG,aj]) n 0 ((0:Int),a0,us,[]) ⟨[],rfl,Nat.zero_le _,by simp,λ_ j hj=>absurd hj (Nat.not_lt_zero _)⟩ (by omega)
 exact⟨c,by simp[jf,h1,bk],h2⟩
theorem BI.back{us:List (List Int)}{N to:Nat}{d:List Int}{F:List Nat}(b:BI us N to F.length d F){i y:Nat}(hi:i<N)(hy:y<N)(h:(y:Int)∈us.getD i [])(h0:0<=d.getD y 0):0<=d.getD i 0:=by
 obtain⟨j,hj,hjy⟩:=mem_iff_getElem.1 ((b.mem y hy).1 h0);exact b.cl j y hj (by rw[dI hj,hjy]) i hi h
theorem amA{us:List (List Int)}{N:Nat}(hg:ZW us N)(hf:∀j,j<N->sA us N j)(done:Nat->Prop){i0:Nat}(h0:i0<N)(hd0:¬done i0):∃i,i<N/\¬done i/\∀k∈us.getD i [],done k.toNat:=by
 refine vP λhno=>?_;have hstep:∀i:{i:Nat // i<N/\¬done i},∃k:{k:Nat // k<N/\¬done k},(k.1:Int)∈us.getD i.1 []:=by
  rintro⟨i,hi,hnd⟩;refine vP λh=>hno ⟨i,hi,hnd,λk hk=>vP λhkd=>h ?_⟩;have hl:us.getD i []∈us:=by
   have:i<us.length:=(by rw[hg.1];exact hi);simp[List.getD,this]
  have hr:=(hg.2.2 _ hl).2 k hk;exact⟨⟨k.toNat,by omega,hkd⟩,by show(k.toNat:Int)∈_;rw[Int.toNat_of_nonneg hr.1];exact hk⟩
 obtain⟨f,hfs⟩:=Classical.axiomOfChoice hstep
 let g:Nat->{i:Nat // i<N/\¬done i}:=λj=>Nat.rec ⟨i0,h0,hd0⟩ (λ _ x=>f x) j
 have hgs:∀j,((g (j+1)).1:Int)∈us.getD (g j).1 []:=λj=>hfs (g j);have hnd:¬((List.range (N+1)).map λj=>(g j).1).Nodup:=λh=>by
  have:=KM N _ h λy hy=>by
   obtain⟨j,_,rfl⟩:=mem_map.1 hy;exact(g j).2.1
  rw[length_map,List.length_range]at this;omega
 obtain⟨a,b,hab,he⟩:∃a b,a<b/\(g a).1=(g b).1:=by
  refine vP λh=>hnd ?_;rw[List.nodup_iff_pairwise_ne,List.pairwise_map];exact List.pairwise_lt_range.imp λ{x y} hxy e=>h ⟨x,y,hxy,e⟩
 obtain⟨d,F,hb,hneg⟩:=hf _ (g a).2.1;have hall:∀c,a<b -c->c<b -a->0<=d.getD (g (b -c)).1 0:=by
  intro c
  induction c with
  |zero=>intro _ _;rw[Nat.sub_zero,<- he,hb.hd.2];exact Int.le_refl _
  |succ c ih=>
   intro h1 h2;have:=ih (by omega) (by omega);have e:b -c=b -(c+1)+1:=(by omega);rw[e]at this;exact hb.back (g (b -(c+1))).2.1 (g (b -(c+1)+1)).2.1 (hgs (b -(c+1))) this
 have h1:=hall (b -a -1) (by omega) (by omega);have e:b -(b -a -1)=a+1:=by omega
 rw[e]at h1;have h2:=hneg _ (hgs a);simp only[Int.toNat_natCast]at h2;omega
theorem aeG{n N:Nat}{l:List Int}{done:List Bool}(hd:done.length=N)(hl:l.length<=4000000)(hr:∀k∈l,0<=k/\k<(N:Int))(hn:4000001<=n):
 ∃r,iE n l done=some (r,done)/\(r=false↔∀k∈l,done.getD k.toNat false=true):=by
 obtain⟨o,h1,h2⟩:=dZ (step:=jT l) (λ i (v:Int×List Bool)=>v=((i:Int),done)/\i<=l.length/\∀k∈l.take i,done.getD k.toNat false=true)
  (λ o=>(o= .inl done/\∀k∈l,done.getD k.toNat false=true)\/∃i:Nat,o= .inr ((i:Int),done)/\∃k∈l,done.getD k.toNat false=false) l.length (λ k v h=>h.2.1) (by
  rintro i v ⟨rfl,hi,hall⟩;by_cases hlt:i<l.length
  ·have hk:=hr l[i] (getElem_mem hlt);obtain⟨k,hk2⟩:=Int.eq_ofNat_of_zero_le hk.1;have hkN:k<done.length:=(by omega);have GW:done[k]=done.getD k false:=(by simp[List.getD,hkN]);have htk:l.take (i+1)=l.take i++[l[i]]:=(by rw[List.take_add_one,dI hlt];rfl);simp only[jT,show decide ((i:Int)<(l.length:Int))=true from by simp;omega,aj,bB hlt,ah,aG,hk2,mY,bE hkN,bM hkN,GW];cases hdk:done.getD k false with
   |true=>
    refine .inl ⟨_,by simp only[Bool.not_true,ak];rfl,by rw[aR (by omega)],hlt,λz hz=>?_⟩;rw[htk,aX]at hz;rcases hz with hz |hz
    ·exact hall z hz
    ·simp only[aY]at hz;rw[hz,hk2];simpa using hdk
   |false=>exact .inr ⟨_,by simp only[Bool.not_false,aj,Option.map_some],.inr ⟨i,rfl,l[i],getElem_mem hlt,by rw[hk2];simpa using hdk⟩⟩
  ·refine .inr ⟨.inl done,?_,.inl ⟨rfl,by rw[take_of_length_le (by omega)]at hall;exact hall⟩⟩;simp only[jT,show decide ((i:Int)<(l.length:Int))=false from by simp;omega,ak,aG,aj]) n 0 ((0:Int),done) ⟨rfl,Nat.zero_le _,by simp⟩ (by omega)
 rcases h2 with ⟨rfl,h2⟩ |⟨i,rfl,k,hk,hkd⟩
 ·exact⟨false,by simp[iE,nD,h1],λ_=>h2,λ_=>rfl⟩
 ·refine⟨true,by simp[iE,nD,h1],λh=>(by cases h),λh=>?_⟩;rw[h k hk]at hkd;cases hkd
def In(us:List (List Int))(N:Nat)(done:List Bool)(i:Nat)(w:Int):Prop:=
 (w= -1/\∀j,j<i->¬(done.getD j false=false/\∀k∈us.getD j [],done.getD k.toNat false=true))\/∃j:Nat,w=(j:Int)/\j<i/\done.getD j false=false
theorem alh{n N:Nat}{a0:pR}{done:List Bool}(hg:ZW a0.uses N)(hd:a0.defs.length=N)(hl:done.length=N)(hn:4000002<=n):∃w,iter (iR n a0) n ((-1:Int),(0:Int),done)=some (w,done)/\In a0.uses N done N w:=by
 have hN:=hg.2.1;have C3:=hg.1;obtain⟨o,h1,w,rfl,h2⟩:=dZ (step:=iR n a0) (λ i (v:Int×Int×List Bool)=>∃w,v=(w,(i:Int),done)/\i<=N/\In a0.uses N done i w) (λ o=>∃w,o=(w,done)/\In a0.uses N done N w) N (λ k v ⟨_,_,h,_⟩=>h) (by
  rintro i v ⟨w,rfl,hi,hw⟩;by_cases hlt:i<N
  ·left;have hiu:i<a0.uses.length:=(by omega);have hid:i<a0.defs.length:=(by omega);have hib:i<done.length:=(by omega);have hl2:=hg.2.2 a0.uses[i] (getElem_mem hiu);obtain⟨r,hr1,hr2⟩:=aeG (n:=n) hl hl2.1 hl2.2 (by omega);have hgi:a0.uses.getD i []=a0.uses[i]:=(by simp[List.getD,hiu]);have hdi:done[i]=done.getD i false:=(by simp[List.getD,hib]);simp only[iR,show decide ((i:Int)<(a0.uses.length:Int))=true from by simp;omega,aj,bB hiu,ah,aG,hr1,bE hib,bM hib,hdi,aW i];have keep:(done.getD i false=true\/r=true)->In a0.uses N done (i+1) w:=by
    intro hno;rcases hw with ⟨rfl,hw⟩ |⟨j,rfl,hj,hw⟩
    ·refine .inl ⟨rfl,λj hj h=>?_⟩;by_cases e:j=i
     ·subst e;rw[hgi]at h;rcases hno with h3 |h3
      ·rw[h3]at h;exact absurd h.1 (by simp)
      ·have:=hr2.2 h.2;rw[h3]at this;cases this
     ·exact hw j (by omega) h
    ·exact .inr ⟨j,rfl,by omega,hw⟩
   cases hdn:done.getD i false with
   |true=>exact⟨_,by simp only[Bool.not_true,ak,ah],w,rfl,hlt,keep (.inl hdn)⟩
   |false=>
    cases r with
    |true=>exact⟨_,by simp only[Bool.not_false,Bool.not_true,aj,ak,ah],w,rfl,hlt,keep (.inr rfl)⟩
    |false=>
     have aq:In a0.uses N done (i+1) i:= .inr ⟨i,rfl,by omega,hdn⟩;rcases hw with ⟨rfl,hw⟩ |⟨j,rfl,hj,hw⟩
     ·exact⟨_,by simp only[Bool.not_false,aj,show decide ((-1:Int)<0)=true from rfl,ah],_,rfl,hlt,aq⟩
     ·have hjd:j<a0.defs.length:=(by omega);simp only[Bool.not_false,aj,show decide ((j:Int)<0)=false from by simp,ak,bB hid,bB hjd,ah];cases WO a0.defs[i].name a0.defs[j].name with
      |true=>exact⟨_,rfl,_,rfl,hlt,aq⟩
      |false=>exact⟨_,rfl,_,rfl,hlt,.inr ⟨j,rfl,by omega,hw⟩⟩
  ·right;have hiN:i=N:=(by omega);refine⟨(w,done),?_,w,rfl,hiN ▸ hw⟩;simp only[iR,show decide ((i:Int)<(a0.uses.length:Int))=false from by simp;omega,ak,aG,aj]) n 0 ((-1:Int),(0:Int),done) ⟨_,rfl,Nat.zero_le _,.inl ⟨rfl,λj hj=>absurd hj (Nat.not_lt_zero _)⟩⟩ (by omega)
 exact⟨w,h1,h2⟩
theorem ali{n N:Nat}{a0:pR}(hg:ZW a0.uses N)(hd:a0.defs.length=N)(hf:∀j,j<N->sA a0.uses N j)(hn:4000002<=n):∃l,oq n a0=some l/\l.length=N/\∀k∈l,0<=k/\k<(N:Int):=by
 have hN:=hg.2.1;have hmx:maxLen=9223372036854775807:=rfl
 obtain⟨o,h1,h2⟩:=dZ (step:=kU n a0) (λ c (v:Int×List Int×List Bool)=>∃ab done,v=((c:Int),ab,done)/\c<=N/\ab.length=c/\(∀ k∈ab,0<=k/\k<(N:Int))/\done.length=N/\done.count false=N -c)
  (λ o=>o.length=N/\∀k∈o,0<=k/\k<(N:Int)) N (λ k v ⟨_,_,_,h,_⟩=>h) (by
  rintro c v ⟨ab,done,rfl,hc,hol,hor,hdl,hcf⟩;by_cases hlt:c<N
  ·left;have⟨w,hw1,hw2⟩:=alh (n:=n) hg hd hdl hn;have hopen:∃i0,i0<N/\done.getD i0 false=false:=by
    have hm:false∈done:=List.count_pos_iff.1 (by omega);obtain⟨i0,h0,e⟩:=mem_iff_getElem.1 hm;exact⟨i0,by omega,by simp[List.getD,h0,e]⟩
   obtain⟨i0,h0,h0d⟩:=hopen;obtain⟨i,hi,hid,hia⟩:=amA hg hf (λ j=>done.getD j false=true) h0 (by rw[h0d];simp);rcases hw2 with ⟨rfl,hw2⟩ |⟨j,rfl,hj,hjd⟩
   ·exact absurd ⟨Bool.eq_false_iff.2 hid,hia⟩ (hw2 i hi)
   ·have hjl:j<done.length:=(by omega);have hap:bR ab.length ab.length (sub [(j:Int)] 0 1).length 1 8=true:=(by simp[bR,sub];omega);have hset:(done.set j true).length=done.length:=(by simp);refine⟨(((c+1:Nat):Int),ab++[(j:Int)],done.set j true),?_,_,_,rfl,hlt,by simp[hol],?_,by simp[hdl],?_⟩
    ·simp only[kU,show decide ((c:Int)<(a0.defs.length:Int))=true from by simp;omega,aj,aG,hw1,ah,bE hjl,bM hjl,hap,fG,aW c,show(((0:Nat):Int)+(j:Int)).toNat=j by omega,Rz hset.symm];simp[sub]
    ·intro k hk;rw[aX]at hk;rcases hk with hk |hk
     ·exact hor k hk
     ·simp at hk;subst hk;omega
    ·have hjf:done[j]=false:=(by simpa[List.getD,hjl]using hjd);rw[List.count_set hjl,hcf,hjf];simp;omega
  ·right;have:c=N:=(by omega);refine⟨ab,?_,by omega,hor⟩;simp only[kU,show decide ((c:Int)<(a0.defs.length:Int))=false from by simp;omega,ak,aG,aj]) n 0 ((0:Int),[],List.replicate N false) ⟨[],_,rfl,Nat.zero_le _,rfl,by simp,by simp,by simp⟩ (by omega)
 refine⟨o,?_,h2⟩;have hmk:BH (N:Int) 1=true:=by simp[BH];omega
 simp only[oq,hd,Int.le_refl,decide_true,Bool.true_and,show decide ((0:Int)<=(N:Int))=true from by simp,hmk,aj,Int.toNat_natCast,h1,ah,cZ,aG];simp[bk]
def oE(ab:List aD)(s:aD):List aD:=
 match ab.getLast? with
 |some q=>bif decide (s.from_<=q.to)then ab.dropLast++[⟨q.from_,max q.to s.to⟩]else ab++[s]
 |none=>[s]
theorem Yb(ab:List aD)(s:aD):(oE ab s).length<=ab.length+1:=by
 unfold oE;cases ab.getLast? with
 |none=>simp
 |some q=>simp only;cases decide (s.from_<=q.to)<;>simp<;>omega
theorem agW(o:List aD)(q s:aD):oE (o++[q]) s=bif decide (s.from_<=q.to)then o++[⟨q.from_,max q.to s.to⟩]else o++[q]++[s]:=by simp[oE]
abbrev CA(s:aD):Prop:=s.from_<s.to
def ij(l:List aD)(y:Int):Bool:=l.any λs=>decide (s.from_<=y)&&decide (y<s.to)
def Can(l:List aD):Prop:=l.Pairwise (λ a b=>a.to<b.from_)/\∀s∈l,CA s
theorem P5(l:List aD)(y:Int):ij l y=true↔∃s∈l,s.from_<=y/\y<s.to:=by simp[ij]
theorem H8(l m:List aD)(y:Int):ij (l++m) y=(ij l y || ij m y):=by simp[ij]
theorem Ma(y:Int):ij [] y=false:=rfl
theorem oL(s:aD)(l:List aD)(y:Int):ij (s::l) y=((decide (s.from_<=y)&&decide (y<s.to)) || ij l y):=by simp[ij]
theorem aeH{l m:List aD}(h:l.Perm m)(y:Int):ij l y=ij m y:=by
 rw[kE,P5,P5];exact⟨λ ⟨s,hs,h1⟩=>⟨s,h.mem_iff.1 hs,h1⟩,λ⟨s,hs,h1⟩=>⟨s,h.mem_iff.2 hs,h1⟩⟩
theorem aip:Can []:=⟨List.Pairwise.nil,by simp⟩
theorem alj{ab:List aD}{s:aD}(hc:Can ab)(hs:CA s)(hb:∀o∈ab,o.from_<=s.from_):
 Can (oE ab s)/\(∀ o∈oE ab s,o.from_<=s.from_)/\∀y,ij (oE ab s) y=(ij ab y || ij [s] y):=by
 rcases List.eq_nil_or_concat ab with rfl |⟨o,q,rfl⟩
 ·refine⟨⟨by simp[oE],by simp[oE];exact hs⟩,by simp[oE],λy=>by simp[oE,ij]⟩
 ·rw[List.concat_eq_append]at*;obtain⟨h1,h2⟩:=hc;rw[pairwise_append]at h1;obtain⟨p1,_,p3⟩:=h1;have hq:CA q:=h2 q (by simp);have hqs:q.from_<=s.from_:=hb q (by simp);rw[agW];by_cases hj:s.from_<=q.to
  ·simp only[hj,decide_true,aj];refine⟨⟨?_,?_⟩,?_,?_⟩
   ·rw[pairwise_append];refine⟨p1,by simp,λa ha b hb'=>?_⟩;rw[aY]at hb';subst hb';exact p3 a ha q (by simp)
   ·intro a ha;rcases aX.1 ha with ha |ha
    ·exact h2 a (by simp[ha])
    ·rw[aY]at ha;subst ha;show q.from_<max q.to s.to;have:q.from_<q.to:=hq;omega
   ·intro a ha;rcases aX.1 ha with ha |ha
    ·exact hb a (by simp[ha])
    ·rw[aY]at ha;subst ha;exact hqs
   ·intro y;rw[H8,H8,Bool.or_assoc];congr 1;simp only[oL,Ma,Bool.or_false];rw[kE];simp only[aJ,Bool.or_eq_true,aT];have:q.from_<q.to:=hq;have:s.from_<s.to:=hs;omega
  ·simp only[hj,decide_false,ak];refine⟨⟨?_,?_⟩,?_,?_⟩
   ·rw[pairwise_append];refine⟨?_,by simp,λa ha b hb'=>?_⟩
    ·rw[pairwise_append];exact⟨p1,by simp,p3⟩
    ·rw[aY]at hb';subst hb';rcases aX.1 ha with ha |ha
     ·have:=p3 a ha q (by simp);have:q.from_<q.to:=hq;omega
     ·rw[aY]at ha;subst ha;omega
   ·intro a ha;rcases aX.1 ha with ha |ha
    ·exact h2 a ha
    ·rw[aY]at ha;subst ha;exact hs
   ·intro a ha;rcases aX.1 ha with ha |ha
    ·exact hb a ha
    ·rw[aY]at ha;subst ha;exact Int.le_refl _
   ·intro y;rw[H8]
theorem RN:∀(l ab:List aD),Can ab->(∀ s∈l,CA s)->l.Pairwise (λ x y=>x.from_<=y.from_)->(∀ o∈ab,∀s∈l,o.from_<=s.from_)->Can (l.foldl oE ab)/\∀y,ij (l.foldl oE ab) y=(ij ab y || ij l y)
 |[],ab,hc,_,_,_=>⟨hc,λy=>by simp[Ma]⟩
 |s::l,ab,hc,hv,hp,hb=>by
  rw[pairwise_cons]at hp;obtain⟨m1,m2,m3⟩:=alj hc (hv s (by simp)) (λ o ho=>hb o ho s (by simp));obtain⟨f1,f2⟩:=RN l (oE ab s) m1 (λ t ht=>hv t (by simp[ht])) hp.2 (λ o ho t ht=>Int.le_trans (m2 o ho) (hp.1 t ht));refine⟨f1,λy=>?_⟩;rw[foldl_cons,f2,m3,Bool.or_assoc,<- H8];rfl
theorem aeI{a:aD}{l:List aD}(h:Can (a::l)):Can l:=⟨(pairwise_cons.1 h.1).2,λs hs=>h.2 s (by simp[hs])⟩
theorem Mc{a:aD}{l:List aD}(h:Can (a::l)){y:Int}(hy:ij l y=true):a.to<y:=by
 obtain⟨s,hs,h1,_⟩:=(P5 _ _).1 hy;have:=(pairwise_cons.1 h.1).1 s hs;omega
theorem abo{a:aD}{l:List aD}(h:Can (a::l)){y:Int}(hy:ij (a::l) y=true):a.from_<=y:=by
 rw[oL,Bool.or_eq_true]at hy;rcases hy with hy |hy
 ·simp only[aJ,aT]at hy;exact hy.1
 ·have:=Mc h hy;have:a.from_<a.to:=h.2 a (by simp);omega
theorem Yc:∀{l m:List aD},Can l->Can m->(∀ y,ij l y=ij m y)->l=m
 |[],[],_,_,_=>rfl
 |[],b::m,_,hm,h=>by
  have:=h b.from_;have hb:b.from_<b.to:=hm.2 b (by simp);rw[Ma,oL]at this;simp[hb]at this
 |a::l,[],hl,_,h=>by
  have:=h a.from_;have ha:a.from_<a.to:=hl.2 a (by simp);rw[Ma,oL]at this;simp[ha]at this
 |a::l,b::m,hl,hm,h=>by
  have ha:a.from_<a.to:=hl.2 a (by simp);have hb:b.from_<b.to:=hm.2 b (by simp);have ina:ij (a::l) a.from_=true:=by rw[oL];simp[ha]
  have OK:ij (b::m) b.from_=true:=by rw[oL];simp[hb]
  have e1:a.from_=b.from_:=by
   have h1:=abo hm (by rw[<- h];exact ina);have h2:=abo hl (by rw[h];exact OK);omega
  have nl:∀(c:aD)(k:List aD),Can (c::k)->ij (c::k) c.to=false:=by
   intro c k hk;cases hc:ij (c::k) c.to with
   |false=>rfl
   |true=>
    rw[oL,Bool.or_eq_true]at hc;rcases hc with hc |hc
    ·simp at hc
    ·have:=Mc hk hc;omega
  have e2:a.to=b.to:=by
   rcases Int.lt_trichotomy a.to b.to with hlt |he |hlt
   ·have h1:=nl a l hl;rw[h,oL]at h1;simp only[Bool.or_eq_false_iff,Bool.and_eq_false_iff,dN]at h1;omega
   ·exact he
   ·have h1:=nl b m hm;rw[<- h,oL]at h1;simp only[Bool.or_eq_false_iff,Bool.and_eq_false_iff,dN]at h1;omega
  have e:a=b:=by cases a;cases b;simp only at e1 e2;rw[e1,e2]
  subst e;rw[Yc (aeI hl) (aeI hm) λy=>?_];have hy:=h y;rw[oL,oL]at hy;cases h1:ij l y with
  |true=>
   have:=Mc hl h1;have z:(decide (a.from_<=y)&&decide (y<a.to))=false:=(by rw[Bool.and_eq_false_iff,dN,dN];omega);rw[z,h1,Bool.false_or,Bool.false_or]at hy;rw[<- hy]
  |false=>
   cases h2:ij m y with
   |false=>rfl
   |true=>
    have:=Mc hm h2;have z:(decide (a.from_<=y)&&decide (y<a.to))=false:=(by rw[Bool.and_eq_false_iff,dN,dN];omega);rw[z,h1,h2]at hy;simp at hy
def BY(l:List aD):List aD:=(kY ry l).foldl oE []
theorem alk{l:List aD}(h:l.Pairwise λx y=>ry y x=false):l.Pairwise λx y=>x.from_<=y.from_:=
 h.imp λ{x y} hxy=>by simp only[ry,dN]at hxy;omega
theorem abp{l:List aD}(h:∀s∈l,CA s):Can (BY l)/\∀y,ij (BY l) y=ij l y:=by
 have hp:=NI ry l;obtain⟨h1,h2⟩:=RN (kY ry l) [] aip (λ s hs=>h s (hp.mem_iff.1 hs)) (alk (gS PZ l)) (by simp);exact⟨h1,λy=>by rw[BY,h2,Ma,Bool.false_or,aeH hp]⟩
theorem ajx{l:List aD}(h:∀s∈l,CA s):(AJ ry l).foldl oE []=BY l:=by
 have hp:=NE PZ l;obtain⟨h1,h2⟩:=RN (AJ ry l) [] aip (λ s hs=>h s (hp.mem_iff.1 hs)) (alk (Pn PZ l)) (by simp);have⟨h3,h4⟩:=abp h;exact Yc h1 h3 λy=>by rw[h2,Ma,Bool.false_or,aeH hp,h4]
theorem aeJ(l:List aD):(BY l).length<=l.length:=by
 have:∀(ys ab:List aD),(ys.foldl oE ab).length<=ab.length+ys.length:=by
  intro ys
  induction ys with
  |nil=>intro ab;simp
  |cons y ys ih=>
   intro ab;simp only[foldl_cons,bF];have:=ih (oE ab y);have:=Yb ab y;omega
 have h:=this (kY ry l) [];rw[eO]at h;simpa[BY]using h
abbrev d5(r:ay):Bool:=decide (0<=r.x0)&&(decide (r.x0<r.x1)&&(decide (r.x1<=1048576)&&(decide (0<=r.y0)&&(decide (r.y0<r.y1)&&decide (r.y1<=1048576)))))
theorem Mo(a b:Bool):(bif a then some b else some false)=some (a&&b):=by cases a<;>rfl
theorem jE(r:ay):pu r=some (d5 r):=by simp only[pu,Mo]
def jA(l:List ay)(x:Int):List aD:=(l.filter λr=>decide (r.x0<=x)&&decide (x<r.x1)).map λr=>⟨r.y0,r.y1⟩
def cK(l:List ay)(x:Int):List aD:=BY (jA l x)
theorem KN(l:List ay)(x:Int):(jA l x).length<=l.length:=by simp only[jA,length_map];exact length_filter_le _ _
theorem A8(l:List ay)(x:Int):(cK l x).length<=l.length:=
 Nat.le_trans (aeJ _) (KN l x)
theorem aoq{r:ay}(h:d5 r=true):r.x0<r.x1:=by simp only[d5,aJ,aT]at h;omega
theorem anh{r:ay}(h:d5 r=true):r.y0<r.y1:=by simp only[d5,aJ,aT]at h;omega
theorem Yd{l:List ay}(h:∀r∈l,d5 r=true)(x:Int):∀s∈jA l x,CA s:=by
 intro s hs;simp only[jA,mem_map,List.mem_filter]at hs;obtain⟨r,⟨hr,_⟩,rfl⟩:=hs;exact anh (h r hr)
theorem RO{l:List ay}{x:Int}(hl:l.length<1099511627776){n:Nat}(hn:l.length<n):iter (uH l x) n ((0:Int),([]:List aD))=some (jA l x):=by
 have:=gm (l:=l) (step:=uH l x) (λ i (s:List aD)=>((i:Int),s)) (λ r s=>bif decide (r.x0<=x)&&decide (x<r.x1)then s++[⟨r.y0,r.y1⟩]else s) (λ s=>s) (λ i s=>s.length<=i)
  (λ i hi s hs=>?_) (λ s hs=>by simp[uH]) n hn [] (aQ _)
 ·rw[show ((0:Nat):Int)=0 from rfl]at this;rw[this];congr 1;have gen:∀(ys:List ay)(s:List aD),ys.foldl (λ s r=>bif decide (r.x0<=x)&&decide (x<r.x1)then s++[⟨r.y0,r.y1⟩]else s) s=s++jA ys x:=by
   intro ys
   induction ys with
   |nil=>intro s;simp[jA]
   |cons y ys ih=>
    intro s;simp only[foldl_cons,ih];cases h:(decide (y.x0<=x)&&decide (x<y.x1))with
    |true=>simp[jA,h]
    |false=>simp[jA,h]
  simpa using gen l []
 ·have hi':decide ((i:Int)<(l.length:Int))=true:=by simpa using hi
  have ap:bR s.length s.length (sub ([(aD.mk l[i].y0 l[i].y1)]:List aD) 0 1).length 1 16=true:=eX (n:=1);simp only[uH,hi',aj,bB hi,ah,Mo];cases h:(decide (l[i].x0<=x)&&decide (x<l[i].x1))with
  |true=>
   simp only[aj,ap,fG,aG,ah];refine⟨?_,by simp;omega⟩;rw[aR (by omega)];rfl
  |false=>
   simp only[ak,aG,aj,ah];exact⟨by rw[aR (by omega)],by omega⟩
theorem RP(w1 r2:List aD)(hw:w1.length=r2.length)(hl:r2.length<1099511627776)(hn:r2.length<n):iter (uI w1 r2) n ((0:Int),([]:List aD))=some (r2.foldl oE []):=by
 have:=gm (l:=r2) (step:=uI w1 r2) (λ i (s:List aD)=>((i:Int),s)) (λ r s=>oE s r) (λ s=>s) (λ i s=>s.length<=i)
  (λ i hi s hs=>?_) (λ s hs=>by simp[uI,hw]) n hn [] (aQ _)
 ·rw[show ((0:Nat):Int)=0 from rfl]at this;exact this
 ·refine⟨?_,by have:=Yb s r2[i];omega⟩;have hi':decide ((i:Int)<(w1.length:Int))=true:=by simp;omega
  have ib:b9 (i:Int) w1.length=true:=bE (by omega);have ap:bR s.length s.length (sub ([r2[i]]:List aD) 0 1).length 1 16=true:=eX (n:=1);simp only[uI,hi',aj,ib,bM hi,ah];rcases List.eq_nil_or_concat s with rfl |⟨s0,q,GG⟩
  ·have d0:decide (((([]:List aD).length:Nat):Int)>0)=false:=(by simp);simp only[d0,ak,ah,ap,aj,fG,aG];rw[aR (by omega)];rfl
  ·rw[List.concat_eq_append]at GG;subst GG;have d0:decide (((((s0++[q]).length:Nat):Int))>0)=true:=(by simp<;>omega);have yr:(s0++[q]).length=s0.length+1:=(by simp);have wp:i64.wrap ((((s0++[q]).length:Nat):Int) -1)=(s0.length:Int):=(by rw[lC (by simp) (by omega),yr];rfl);have ON:b9 (s0.length:Int) (s0++[q]).length=true:=bE (by omega);have g:bo (s0++[q]) (((0:Nat):Int)+(s0.length:Int))=some q:=(by rw[zm];simp);have z:(((0:Nat):Int)+(s0.length:Int)).toNat=s0.length:=(by simp);have st:(s0++[q]).set s0.length (aD.mk q.from_ (max q.to r2[i].to))=s0++[⟨q.from_,max q.to r2[i].to⟩]:=(by simp);have m:oE (s0++[q]) r2[i]=bif decide (r2[i].from_<=q.to)then s0++[⟨q.from_,max q.to r2[i].to⟩]else s0++[q]++[r2[i]]:=(by simp[oE]);simp only[d0,aj,wp,ON,g,ah,m,z,st];cases decide (r2[i].from_<=q.to)with
   |true=>
    have e:bk (s0++[q]).length (s0++[(⟨q.from_,max q.to r2[i].to⟩:aD)]).length=true:=(by simp);simp only[aj,e,ah,aG];rw[aR (by omega)]
   |false=>
    simp only[ak,ap,aj,fG,aG,ah];rw[aR (by omega)];rfl
theorem acN{l:List ay}{x:Int}(hv:∀r∈l,d5 r=true)(hl:l.length<1099511627776)(hn:l.length<n):LW n l x=some (cK l x):=by
 have h1:=KN l x;have h2:(AJ ry (jA l x)).length=(jA l x).length:=Po PZ _;unfold LW;simp only[length_nil,aG,aj,RO (x:=x) (l:=l) (by omega) (n:=n) (by omega),ah];rw[Mq (λ a b=>if a.from_<b.from_ then -1 else if b.from_<a.from_ then 1 else 0) (λ a b=>by show zB a b=_;unfold zB;rw[kP];rfl) (λ a b=>by
  by_cases h1:a.from_<b.from_
  ·simp[h1]
  ·by_cases h2:b.from_<a.from_<;>simp[h1,h2]) (by omega) (by omega)]
 simp only[ah];rw[RP _ _ h2.symm (by omega) (by omega)];simp only[ah,cZ,aG,aj];rw[ajx (Yd hv x)];rfl
def gG(l:List ay):List Int:=B6 (l.flatMap λr=>[r.x0,r.x1])
def iZ{α:Type}(f:Int->Int->α):List Int->List α
 |a::b::l=>f a b::iZ f (b::l)
 |_=>[]
def bn(l:List ay):List bQ:=iZ (λ a b=>⟨a,b,cK l a⟩) (gG l)
theorem sZ{α:Type}(f:Int->Int->α):∀(l:List Int),(iZ f l).length=l.length -1/\∀i (h:i+1<l.length) (h':i<(iZ f l).length),(iZ f l)[i]=f l[i] l[i+1]
 |[]=>⟨rfl,λi h=>by simp at h⟩
 |[a]=>⟨rfl,λi h=>by simp at h⟩
 |a::b::l=>by
  have⟨h1,h2⟩:=sZ f (b::l);refine⟨by simp only[iZ,bF,h1];simp,λi h h'=>?_⟩;cases i with
  |zero=>rfl
  |succ i=>
   simp only[iZ,List.getElem_cons_succ];exact h2 i (by simpa using h) _
theorem xY(l:List ay):(l.flatMap λr=>[r.x0,r.x1]).length=2*l.length:=by
 induction l with
 |nil=>rfl
 |cons x l ih=>simp only[List.flatMap_cons,dH,ih,bF,length_nil];omega
theorem sI(l:List Int):(gQ l).length<=l.length:=by
 match l with
 |[]=>simp[gQ]
 |[x]=>simp[gQ]
 |x::y::l=>
  have:=sI (y::l);simp only[gQ];cases x==y<;>simp at* <;>omega
theorem Nb(l:List ay):(gG l).length<=2*l.length:=by
 have h:=sI (kY (λ a b=>decide (a<b)) (l.flatMap λr=>[r.x0,r.x1]));rw[eO,xY]at h;exact h
theorem RQ{l:List ay}(hl:l.length<10995116277)(hn:l.length<n):iter (uJ l) n ((0:Int),([]:List Int))=some (l.flatMap λr=>[r.x0,r.x1]):=by
 have:=gm (l:=l) (step:=uJ l) (λ i (s:List Int)=>((i:Int),s)) (λ r s=>s++[r.x0,r.x1]) (λ s=>s) (λ i s=>s.length<=2*i)
  (λ i hi s hs=>?_) (λ s hs=>by simp[uJ]) n hn [] (aQ _)
 ·rw[show ((0:Nat):Int)=0 from rfl]at this;rw[this];have gen:∀(ys:List ay)(s:List Int),ys.foldl (λ s r=>s++[r.x0,r.x1]) s=s++ys.flatMap λr=>[r.x0,r.x1]:=by
   intro ys
   induction ys with
   |nil=>intro s;simp
   |cons y ys ih=>intro s;simp[ih]
  congr 1;simpa using gen l []
 ·have hi':decide ((i:Int)<(l.length:Int))=true:=by simpa using hi
  have ap:bR s.length s.length (sub ([l[i].x0,l[i].x1]:List Int) 0 2).length 2 8=true:=eX (n:=2);simp only[uJ,hi',aj,bE hi,bM hi,ah,ap,fG,aG];refine⟨?_,by simp;omega⟩;rw[aR (by omega)];rfl
theorem zP{ls:List (List ay)}(hv:∀r∈ls.flatten,d5 r=true)(hl:ls.flatten.length<10995116277)(hls:ls.length<1099511627776)(hn:2*ls.flatten.length<n)(hn2:ls.length<n):oP n ls=some (bn ls.flatten):=by
 unfold oP;rw[PY (by omega) hls hn2];generalize ls.flatten=l at*;have he:=Nb l;simp only[ah,length_nil,aG,aj,RQ (l:=l) (n:=n) (by omega) (by omega)];rw[pW (by rw[xY];omega) (by rw[xY];omega)];simp only[ah,eO,aG,aj];rw[uV (by rw[eO,xY];omega) (by rw[eO,xY];omega)];simp only[ah];have hE:gQ (kY mn (l.flatMap λr=>[r.x0,r.x1]))=gG l:=rfl;rw[hE];obtain⟨p1,p2⟩:=sZ (λ a b=>(⟨a,b,cK l a⟩:bQ)) (gG l);have key:iter (uK n l ((),gG l)) n ((1:Int),([]:List bQ))=some (bn l):=by
  have:=nu (step:=uK n l ((),gG l)) (λ i=>(((i+1:Nat):Int),(bn l).take i)) (bn l).length (bn l) (λ i hi=>?_) ?_ n (by unfold bn;omega)
  ·simpa using this
  ·have hi2:i+1<(gG l).length:=(by unfold bn at hi;omega);have d:decide (((i+1:Nat):Int)<(((gG l).length:Nat):Int))=true:=(by simp;omega);have wp:i64.wrap (((i+1:Nat):Int) -1)=(i:Int):=(by rw[lC (by omega) (by omega)];rfl);have ap:bR ((bn l).take i).length ((bn l).take i).length (sub ([(bQ.mk ((gG l)[i]'(by omega)) (gG l)[i+1] (cK l ((gG l)[i]'(by omega))))]:List bQ) 0 1).length 1 40=true:=by
    refine eX (n:=1) ?_ ?_
    ·rw[length_take];unfold bn;omega
    ·rw[length_take];unfold bn;simp only[maxLen];omega
   have tk:(bn l).take (i+1)=(bn l).take i++[⟨(gG l)[i]'(by omega),(gG l)[i+1],cK l ((gG l)[i]'(by omega))⟩]:=by
    rw[j4 hi];congr 2;exact p2 i hi2 hi
   simp only[uK,d,aj,wp,bE (show i<(gG l).length by omega),bM (show i<(gG l).length by omega),ah,bE hi2,bM hi2,cZ,aG,acN (l:=l) (n:=n) hv (by omega) (by omega),ap,fG];rw[aR (by omega),tk];rfl
  ·have d:decide ((((bn l).length+1:Nat):Int)<(((gG l).length:Nat):Int))=false:=(by unfold bn;simp;omega);simp only[uK,d,ak,List.take_length,aG,aj]
 rw[key];simp only[ah,cZ,aG,aj]
def DR(x0 x1:Int)(c:List aD):List ay:=c.map λq=>⟨x0,q.from_,x1,q.to⟩
def xr(x0 x1:Int)(c:List aD):List bQ->List ay
 |[]=>DR x0 x1 c
 |s::l=>if s.column=c then xr x0 s.x1 c l else DR x0 x1 c++xr s.x0 s.x1 s.column l
def ni:List bQ->List ay
 |[]=>[]
 |s::l=>xr s.x0 s.x1 s.column l
theorem abq(x0:Int)(c:List aD):∀(l:List bQ)(x1:Int)(k:Nat)(hk:k<=l.length),(∀ j (hj:j<k),(l[j]'(by omega)).column=c)->(∀ h:k<l.length,l[k].column≠c)->
 xr x0 x1 c l=DR x0 (if h:0<k then(l[k -1]'(by omega)).x1 else x1) c++ni (l.drop k)
 |l,x1,0,_,_,h2=>by
  cases l with
  |nil=>simp[xr,ni]
  |cons s l=>
   have:=h2 (by simp);simp only[List.getElem_cons_zero]at this;simp[xr,ni,this]
 |[],x1,k+1,hk,_,_=>by simp at hk
 |s::l,x1,k+1,hk,h1,h2=>by
  have e0:=h1 0 (by omega);simp only[List.getElem_cons_zero]at e0;simp only[xr,e0,if_true];rw[abq x0 c l s.x1 k (by simpa using hk) (λ j hj=>by have:=h1 (j+1) (by omega);simpa using this) (λ h=>by have:=h2 (by simpa using h);simpa using this)];simp only[List.drop_succ_cons];congr 2;by_cases hk0:0<k
  ·simp only[hk0,dite_true,Nat.zero_lt_succ,Nat.add_sub_cancel];obtain⟨m,rfl⟩:∃m,k=m+1:=⟨k -1,by omega⟩;simp
  ·have:k=0:=(by omega);subst this;simp
theorem Uz{l:List bQ}{i k:Nat}(hi:i<l.length)(hk1:0<k)(hk:k<=l.length)(hl:l.length<10995116277)(x3:bQ)(ab:List ay)(ho:ab.length<1099511627776)(hc:x3.column.length<1099511627776)(hn:x3.column.length<n):
 iter (xO l (i:Int) (k:Int) x3) n ((0:Int),ab)=some (ab++DR l[i].x0 (l[k -1]'(by omega)).x1 x3.column):=by
 have:=gm (l:=x3.column) (step:=xO l (i:Int) (k:Int) x3) (λ j (s:List ay)=>((j:Int),s)) (λ q s=>s++[⟨l[i].x0,q.from_,(l[k -1]'(by omega)).x1,q.to⟩]) (λ s=>s) (λ j s=>s.length<=ab.length+j)
  (λ j hj s hs=>?_) (λ s hs=>by simp[xO]) n hn ab (aQ _)
 ·rw[show ((0:Nat):Int)=0 from rfl]at this;rw[this];have gen:∀(ys:List aD)(s:List ay),ys.foldl (λ s q=>s++[⟨l[i].x0,q.from_,(l[k -1]'(by omega)).x1,q.to⟩]) s=s++DR l[i].x0 (l[k -1]'(by omega)).x1 ys:=by
   intro ys
   induction ys with
   |nil=>intro s;simp[DR]
   |cons y ys ih=>intro s;simp only[foldl_cons,ih];simp[DR]
  rw[gen]
 ·have hj':decide ((j:Int)<(x3.column.length:Int))=true:=by simpa using hj
  have wp:i64.wrap ((k:Int) -1)=((k -1:Nat):Int):=lC hk1 (by omega);have ap:bR s.length s.length (sub ([(ay.mk l[i].x0 (x3.column[j]).from_ (l[k -1]'(by omega)).x1 (x3.column[j]).to)]:List ay) 0 1).length 1 32=true:=eX (n:=1);simp only[xO,hj',aj,bB hj,bB hi,wp,bB (show k -1<l.length by omega),ah,ap,fG,aG];refine⟨?_,by simp;omega⟩;rw[aR (by omega)];rfl
theorem T9{l:List bQ}{b:Nat}(hb:b<=100000)(hl:l.length<=100000)(hc:∀s∈l,s.column.length<=b)(hn:b<n)(hn2:l.length<n):KE n l=some (ni l):=by
 unfold KE;simp only[length_nil,aG,aj];have main:∀(m i:Nat)(ab:List ay)(k:Nat),i+m=l.length->m<k->ab.length<=i*b->iter (xP n l) k ((i:Int),ab)=some (ab++ni (l.drop i)):=by
  intro m
  induction m using Nat.strongRecOn with
  |ind m ih=>
   intro i ab k him hk ho;obtain⟨k,rfl⟩:∃j,k=j+1:=⟨k -1,by omega⟩;by_cases hm:m=0
   ·subst hm;have:i=l.length:=(by omega);subst this;refine bJ ?_;simp[xP,ni]
   ·have hi:i<l.length:=(by omega);have di:decide ((i:Int)<(l.length:Int))=true:=(by simpa using hi);obtain⟨q,hq1,hq2,hq3,hq4⟩:∃q,i<q/\q<=l.length/\(∀ j,i<j->j<q->∀h:j<l.length,l[j].column=l[i].column)/\(∀ h:q<l.length,l[q].column≠l[i].column):=by
     rcases Na (λ j=>if h:j<l.length then decide (l[j].column≠l[i].column)else false) (i+1) l.length with ⟨q,h1,h2,h3,h4⟩ |h
     ·simp only[h2,dite_true,aT]at h3;refine⟨q,by omega,by omega,λj hj1 hj2 hj=>?_,λ_=>h3⟩;have:=h4 j (by omega) hj2;simp only[hj,dite_true,dN,ne_eq,Decidable.not_not]at this;exact this
     ·refine⟨l.length,hi,aQ _,λj hj1 hj2 hj=>?_,λh=>by omega⟩;have:=h j (by omega) hj;simp only[hj,dite_true,dN,ne_eq,Decidable.not_not]at this;exact this
    have cl:∀j (hj:j<l.length),l[j].column.length<=b:=λj hj=>hc _ (getElem_mem hj);have r2:iter (tT n l (i:Int)) n (i64.wrap ((i:Int)+1))=some (q:Int):=by
     rw[aR (by omega)];have:=nu (step:=tT n l (i:Int)) (λ j=>((i+1+j:Nat):Int)) (q -(i+1)) (q:Int) (λ j hj=>?_) ?_ n (by omega)
     ·simpa using this
     ·have hjl:i+1+j<l.length:=(by omega);have dj:decide (((i+1+j:Nat):Int)<(l.length:Int))=true:=(by simp;omega);have hcc:=cl (i+1+j) hjl;simp only[tT,dj,aj,bB hjl,bB hi,ah];rw[FL (by omega) (by omega),hq3 (i+1+j) (by omega) (by omega) hjl];simp only[decide_true,ah,aj];rw[aR (by omega)];rfl
     ·rw[show i+1+(q -(i+1))=q by omega];by_cases ws:q<l.length
      ·have dj:decide ((q:Int)<(l.length:Int))=true:=(by simpa using ws);have hcc:=cl q ws;simp only[tT,dj,aj,bB ws,bB hi,ah];rw[FL (by omega) (by omega)];simp[hq4 ws]
      ·have dj:decide ((q:Int)<(l.length:Int))=false:=(by simp;omega);simp only[tT,dj,ak,ah]
    have ob:i*b<=100000*100000:=Nat.mul_le_mul (by omega) hb;have hci:=cl i hi;have r3:=Uz (n:=n) hi (show 0<q by omega) hq2 (by omega) l[i] ab (by omega) (by omega) (by omega);have step:xP n l ((i:Int),ab)=some (.inl ((q:Int),ab++DR l[i].x0 (l[q -1]'(by omega)).x1 l[i].column)):=(by simp only[xP,di,aj,r2,bB hi,ah,aG,r3]);rw[dx step,ih (l.length -q) (by omega) q _ k (by omega) (by omega) (by
     rw[dH,DR,length_map];have:(i+1)*b<=q*b:=Nat.mul_le_mul_right _ (by omega);rw[Nat.add_mul]at this;omega)]
    rw[aK];congr 2
    conv=>rhs;rw[List.drop_eq_getElem_cons hi]
    simp only[ni];rw[abq l[i].x0 l[i].column (l.drop (i+1)) l[i].x1 (q -(i+1)) (by rw[length_drop];omega) (λ j hj=>by
     rw[getElem_drop];exact hq3 _ (by omega) (by omega) (by omega)) (λ h=>by
     rw[length_drop]at h;rw[getElem_drop];have:=hq4 (by omega);have hqq:i+1+(q -(i+1))=q:=(by omega);simp only[hqq];exact this)]
    rw[List.drop_drop,show i+1+(q -(i+1))=q by omega];congr 2;by_cases h0:0<q -(i+1)
    ·simp only[h0,dite_true,getElem_drop];congr 2;omega
    ·simp only[h0,dite_false];have:q -1=i:=(by omega);congr 2
 have:=main l.length 0 [] n (by omega) (by omega) (by simp);simp only[Int.natCast_zero,bO,List.drop_zero]at this;rw[this];simp
def p5(l:List ay):List ay×Int:=
 if l.all d5 then(if l.length>400 then([],6)else if (ni (bn l)).length>200 then([],6)else(ni (bn l),0))else([],1)
def cI(l:List ay):Bool:=decide ((p5 l).2=0)&&decide ((p5 l).1=l)
theorem aeL{l:List ay}{s:bQ}(h:s∈bn l):s.column.length<=l.length:=by
 obtain⟨i,hi,rfl⟩:=List.getElem_of_mem h;obtain⟨p1,p2⟩:=sZ (λ a b=>(⟨a,b,cK l a⟩:bQ)) (gG l);have:(bn l)[i]=⟨(gG l)[i]'(by unfold bn at hi;omega),(gG l)[i+1]'(by unfold bn at hi;omega),cK l ((gG l)[i]'(by unfold bn at hi;omega))⟩:=p2 i (by unfold bn at hi;omega) hi;rw[this];exact A8 l _
theorem uW(l:List ay):(bn l).length<=2*l.length:=by
 obtain⟨p1,_⟩:=sZ (λ a b=>(⟨a,b,cK l a⟩:bQ)) (gG l);have:=Nb l;unfold bn;omega
theorem alm{l:List ay}(hl:l.length<1099511627776)(hl2:l.length<n)(hn:1000<=n):Lq n l=some (p5 l):=by
 unfold Lq;have h1:=tL (l:=l) (step:=PN l) (λ i=>(i:Int)) (λ r=>!d5 r) () (λ _=>(([]:List ay),(1:Int))) (λ i hi=>?_) ?_ n (by omega)
 ·rw[show ((0:Nat):Int)=0 from rfl]at h1;rw[h1];have h2:=uy (λ r=>!d5 r) l;cases hf:pq (λ r=>!d5 r) l with
  |some i=>
   rw[hf]at h2;have:l.all d5=false:=by
    rw[<- Bool.not_eq_true,all_eq_true];intro hall;have h3:=h2.symm;simp only[Option.isSome_some,any_eq_true]at h3;obtain⟨x,hx,hx2⟩:=h3;rw[hall x hx]at hx2;cases hx2
   simp[p5,this]
  |none=>
   rw[hf]at h2;have:l.all d5=true:=by
    rw[all_eq_true];intro x hx;cases h:d5 x with
    |true=>rfl
    |false=>
     have:l.any (λ r=>!d5 r)=true:=any_eq_true.2 ⟨x,hx,by rw[h];rfl⟩;rw[this]at h2;cases h2
   have hv:∀r∈l,d5 r=true:=all_eq_true.1 this;by_cases Hc:l.length>400
   ·have d4:decide ((l.length:Int)>400)=true:=(by simp;omega);simp only[dP,d4,aj,p5,this,if_true,aP Hc]
   have d4:decide ((l.length:Int)>400)=false:=(by simp;omega);have ls:=uW l;simp only[dP,d4,ak];have fl:[l].flatten=l:=(by simp);rw[show (sub ([l]:List (List ay)) 0 1)=[l]from rfl,zP (ls:=[l]) (by rw[fl];exact hv) (by rw[fl];omega) (by simp) (by rw[fl];omega) (by simp;omega),fl];simp only[List.length_singleton,aG,aj,ah,cZ];rw[T9 (b:=400) (by omega) (by omega) (λ s hs=>Nat.le_trans (aeL hs) (by omega)) (by omega) (by omega)];simp only[ah,cZ,aG,aj,AR,p5,this,if_true,aO Hc];by_cases qr:(ni (bn l)).length>200
   ·have:decide (((ni (bn l)).length:Int)>200)=true:=(by simp;omega);simp only[this,aj,ah,qr,if_true]
   ·have:decide (((ni (bn l)).length:Int)>200)=false:=(by simp;omega);simp only[this,ak,ah,qr,if_false]
 ·have hi':decide ((i:Int)<(l.length:Int))=true:=by simpa using hi
  simp only[PN,hi',aj,bB hi,ah,jE];cases d5 l[i]with
  |false=>rfl
  |true=>simp only[Bool.not_true,ak];rw[aR (by omega)]
 ·simp[PN]
theorem mH{l:List ay}(hl:l.length<1099511627776)(hl2:l.length<n)(hn:1000<=n):oH n l=some (cI l):=by
 unfold oH cI;rw[alm hl hl2 hn];simp only[ah];by_cases h:(p5 l).2=0
 ·have e:((p5 l).2==0)=true:=by simp[h]
  have lo:(p5 l).1.length<=200:=by
   unfold p5;split
   ·split
    ·simp
    ·split
     ·simp
     ·simp;omega
   ·simp
  by_cases hlen:(p5 l).1.length<n
  ·simp only[e,aj,h,decide_true,Bool.true_and];rw[FK (by omega) hlen];rfl
  ·have:(p5 l).1.length≠l.length:=(by omega);have hne:(p5 l).1≠l:=λe=>this (by rw[e]);simp only[e,aj,h,decide_true,Bool.true_and];unfold oQ;have hb:(((p5 l).1.length:Int) !=(l.length:Int))=true:=(by simp;omega);rw[hb];simp[hne]
 ·have e:((p5 l).2==0)=false:=by simp[h]
  simp[e,h]
theorem P6{α:Type}(c:Bool)(a b:α):(bif c then some a else some b)=some (bif c then a else b):=by cases c<;>rfl
theorem abr(i n:Nat):Int.tmod (i:Int) (n:Int)=((i%n:Nat):Int):=by rw[Int.tmod_eq_emod_of_nonneg (by omega)];omega
theorem dR{i n:Nat}(h:i<n):decide ((i:Int)<(n:Int))=true:=by simpa using h
theorem fO(n:Nat):decide ((n:Int)<(n:Int))=false:=by simp
theorem aiq{k b:Nat}(h:k*b<=140737488355328)(h2:k<=maxLen):BH (k:Int) b=true:=by
 have e:((k:Int)).toNat=k:=by omega
 simp only[BH,aJ,aT,e];exact⟨⟨by omega,h⟩,h2⟩
def pw(p:List dJ)(i:Nat):dJ:=p.getD i ⟨0,0⟩
def jl(p:List dJ)(i:Nat):jG:=⟨(pw p i).x,(pw p i).y,(pw p ((i+1)%p.length)).x,(pw p ((i+1)%p.length)).y⟩
def gB(p:List dJ):List jG:=(List.range p.length).map (jl p)
theorem VG{p:List dJ}{i:Nat}(h:i<p.length):pw p i=p[i]:=by simp[pw,h]
theorem dX(p:List dJ):(gB p).length=p.length:=by simp[gB]
theorem A9{p:List dJ}{i:Nat}(h:i<(gB p).length):(gB p)[i]=jl p i:=by simp[gB]
theorem aln{α:Type}(A B:List α)(z x:α):(A++z::B).set A.length x=A++x::B:=by rw[List.set_append_right _ _ (aQ _),Nat.sub_self];rfl
theorem Dh{p:List dJ}(hl:p.length<=100000)(hn:p.length<n):pV n p=some (gB p):=by
 unfold pV;have mk:BH (p.length:Int) 32=true:=aiq (by omega) (by show p.length<=2 ^ 63 -1;omega);have main:=nu (step:=pE p) (λ i=>((i:Int),(List.range i).map (jl p)++List.replicate (p.length -i) (jG.mk 0 0 0 0))) p.length (gB p) (λ i hi=>?_) ?_ n hn
 ·have z:((p.length:Int)).toNat=p.length:=by omega
  simp only[List.range_zero,List.map_nil,bO,Nat.sub_zero]at main;have d1:decide ((p.length:Int)<=(p.length:Int))=true:=by simp
  have d2:decide ((0:Int)<=(p.length:Int))=true:=by simp
  rw[mk,d1,d2,z];simp only[Bool.and_self,aj];rw[show ((0:Nat):Int)=0 from rfl]at main;rw[main];simp only[ah];have e:sub (gB p) 0 p.length=gB p:=by rw[<- dX p];exact cZ _
  rw[e,dX];simp
 ·have nz:((p.length:Int) !=0)=true:=by simp;intro h;rw[h]at hi;simp at hi
  have md:(i+1)%p.length<p.length:=Nat.mod_lt _ (by omega);have w:i64.wrap ((i:Int)+1)=((i+1:Nat):Int):=aR (by omega);have z:((p.length:Int)).toNat=p.length:=by omega
  have rp:List.replicate (p.length -i) (jG.mk 0 0 0 0)=jG.mk 0 0 0 0::List.replicate (p.length -(i+1)) (jG.mk 0 0 0 0):=by rw[show p.length -i=(p.length -(i+1))+1 by omega,List.replicate_succ]
  have la:((List.range i).map (jl p)).length=i:=by simp
  have g:bo ((List.range i).map (jl p)++List.replicate (p.length -i) (jG.mk 0 0 0 0)) (((0:Nat):Int)+(i:Int))=some (jG.mk 0 0 0 0):=by rw[zm,iK (by omega),la,rp,Nat.sub_self];rfl
  have z2:(((0:Nat):Int)+(i:Int)).toNat=i:=by omega
  have st:((List.range i).map (jl p)++List.replicate (p.length -i) (jG.mk 0 0 0 0)).set i (jl p i)=(List.range (i+1)).map (jl p)++List.replicate (p.length -(i+1)) (jG.mk 0 0 0 0):=by
   rw[rp];have:=aln ((List.range i).map (jl p)) (List.replicate (p.length -(i+1)) (jG.mk 0 0 0 0)) (jG.mk 0 0 0 0) (jl p i);rw[la]at this;rw[this,List.range_succ,List.map_append,aK];rfl
  simp only[pE,dR hi,aj,bB hi,ah,nz,w,abr,bB md,z,bE hi,g,z2];rw[<- VG hi,<- VG md];rw[show jG.mk (pw p i).x (pw p i).y (pw p ((i+1)%p.length)).x (pw p ((i+1)%p.length)).y=jl p i from rfl,st]
 ·simp only[pE,fO,ak,Nat.sub_self,List.replicate_zero,append_nil];rfl
def VH(a:dJ):Bool:=decide (0<=a.x)&&(decide (a.x<=1048576)&&(decide (0<=a.y)&&decide (a.y<=1048576)))
def tw(s:jG):Bool:=s.lE==s.me
def Mn(s t:jG):Bool:=decide (max (min s.lE s.me) (min t.lE t.me)<=min (max s.lE s.me) (max t.lE t.me))&&decide (max (min s.pp s.tp) (min t.pp t.tp)<=min (max s.pp s.tp) (max t.pp t.tp))
def VI(a b:dJ):Bool:=decide (a.x<b.x) || (a.x==b.x&&decide (a.y<b.y))
theorem P7(a:dJ):uM a=some (VH a):=by simp only[uM,Mo,VH]
theorem FM(s t:jG):l6 s t=some (Mn s t):=by simp only[l6,Mo,Mn]
theorem nN(s:jG):gU s=some (tw s):=rfl
theorem Ye(a b:Int)(hn:3<=n):sQ n [a,b]=some (if a=0 then b else a):=by
 obtain⟨m,rfl⟩:∃m,n=m+3:=⟨n -3,by omega⟩;have w1:i64.wrap ((0:Int)+1)=1:=by decide
 have w2:i64.wrap ((1:Int)+1)=2:=by decide
 by_cases ha:a=0
 ·by_cases hb:b=0
  ·subst ha;subst hb;simp only[sQ,Fw,wU,w1,w2];rfl
  ·have hb':(b !=0)=true:=(by simpa using hb);subst ha;simp only[sQ,Fw,wU,w1];simp[bo,hb',dw]
 ·have ha':(a !=0)=true:=by simpa using ha
  simp only[sQ,Fw,wU];simp[bo,ha',dw,ha]
theorem NK(a b:dJ)(hn:3<=n):∃r,sj n a b=some r/\decide (r>=0)=!VI a b:=by
 unfold sj;rw[kP,kP];simp only[ah];rw[show ∀u v:Int,sub [u,v] 0 2=[u,v]from λ_ _=>rfl,Ye _ _ hn];refine⟨_,rfl,?_⟩;unfold VI;by_cases h1:a.x<b.x
 ·simp[h1]
 ·by_cases h2:b.x<a.x
  ·have h3:¬a.x=b.x:=(by omega);simp[h1,h2,h3]
  ·have h3:a.x=b.x:=(by omega);by_cases h4:a.y<b.y
   ·simp[h3,h4]
   ·by_cases h5:b.y<a.y<;>simp[h3,h4,h5]
def HK(p:List dJ)(i:Nat):Bool:=
 (!VH (pw p i) || ((((jl p i).lE==(jl p i).me)==((jl p i).pp==(jl p i).tp)) || (tw (jl p i)==tw (jl p ((i+1)%p.length))))) || (decide (0<i)&&!VI (pw p 0) (pw p i))
def UA(p:List dJ)(i k:Nat):Bool:=decide (i+p.length -k>1)&&Mn (jl p i) (jl p k)
def RS(p:List dJ):Bool:=
 decide (4<=p.length)&&(decide (p.length<=60)&&(!((List.range p.length).any (HK p))&&(!((List.range p.length).any λi=>(List.range p.length).any λk=>decide (i+2<=k)&&UA p i k)&&!tw (jl p 0))))
def US(l:List ay)(x y:Int):Bool:=l.any λr=>(decide (r.x0<=x)&&decide (x<r.x1))&&(decide (r.y0<=y)&&decide (y<r.y1))
theorem aeM(l:List ay)(x y:Int):ij (jA l x) y=US l x y:=by
 induction l with
 |nil=>rfl
 |cons r l ih=>
  unfold jA US at*;rw[List.filter_cons,List.any_cons,<- ih];cases h:(decide (r.x0<=x)&&decide (x<r.x1))with
  |true=>simp only[if_true,aC,Bool.true_and];rw[oL]
  |false=>simp
theorem P8{l:List ay}(h:∀r∈l,d5 r=true)(x:Int):Can (cK l x)/\∀y,ij (cK l x) y=US l x y:=by
 have⟨h1,h2⟩:=abp (Yd h x);exact⟨h1,λy=>by rw[cK,h2,aeM]⟩
def Yf:List bQ->Prop
 |[]=>True
 |[s]=>s.x0<s.x1
 |s::t::l=>s.x0<s.x1/\s.x1=t.x0/\Yf (t::l)
def KO:List bQ->Int->List aD
 |[],_=>[]
 |s::l,x=>bif decide (s.x0<=x)&&decide (x<s.x1)then s.column else KO l x
theorem Ba(s:bQ)(l:List bQ)(x:Int):KO (s::l) x=bif decide (s.x0<=x)&&decide (x<s.x1)then s.column else KO l x:=rfl
def Runs:List bQ->Prop
 |[]=>True
 |[s]=>s.x0<s.x1/\s.column≠[]
 |s::t::l=>(s.x0<s.x1/\s.column≠[])/\s.x1<=t.x0/\(s.x1=t.x0->s.column≠t.column)/\Runs (t::l)
theorem amB{s:bQ}{l:List bQ}{x:Int}(h1:s.x0<=x)(h2:x<s.x1):KO (s::l) x=s.column:=by rw[Ba,show(decide (s.x0<=x)&&decide (x<s.x1))=true by simp[h1,h2]];rfl
theorem qx{α:Type}(f:Int->Int->α)(a b:Int)(l:List Int):iZ f (a::b::l)=f a b::iZ f (b::l):=rfl
theorem P9(g:Int->List aD):∀(es:List Int),es.Pairwise (· < ·)->Yf (iZ (λ a b=>(⟨a,b,g a⟩:bQ)) es)
 |[],_=>trivial
 |[_],_=>trivial
 |[a,b],h=>by
  have h1:=(pairwise_cons.1 h).1 b (by simp);exact h1
 |a::b::c::l,h=>by
  have h1:=(pairwise_cons.1 h).1 b (by simp);exact⟨h1,rfl,P9 g (b::c::l) (pairwise_cons.1 h).2⟩
theorem KP(g:Int->List aD)(x:Int):∀(es:List Int),(∀ e∈es,x<e)->KO (iZ (λ a b=>(⟨a,b,g a⟩:bQ)) es) x=[]
 |[],_=>rfl
 |[_],_=>rfl
 |a::b::l,h=>by
  have ha:=h a (by simp);rw[qx,Ba,show(decide (a<=x)&&decide (x<b))=false by rw[Bool.and_eq_false_iff,dN];left;omega,ak];exact KP g x (b::l) λe he=>h e (dS _ he)
theorem KQ(g:Int->List aD)(x:Int):∀(l:List Int)(a:Int),(a::l).Pairwise (· < ·)->a<=x->
 (∀ e∈a::l,e<=x->(∀ e'∈a::l,e'<=e\/x<e')->g e=g x)->((∀ e∈a::l,e<=x)->g x=[])->KO (iZ (λ a b=>(⟨a,b,g a⟩:bQ)) (a::l)) x=g x
 |[],a,_,hx,_,h2=>(h2 (λ e he=>by have:e=a:=by simpa using he
                                  subst this;exact hx)).symm
 |b::l,a,hp,hx,h1,h2=>by
  have hab:=(pairwise_cons.1 hp).1 b (by simp);rw[qx,Ba];by_cases hb:x<b
  ·rw[show (decide (a<=x)&&decide (x<b))=true by simp[hx,hb],aj];refine h1 a (by simp) hx λe he=>?_;rcases aN.1 he with rfl |he
   ·exact .inl (Int.le_refl _)
   ·right;rcases aN.1 he with rfl |he
    ·exact hb
    ·have:=(pairwise_cons.1 (pairwise_cons.1 hp).2).1 e he;omega
  ·rw[show (decide (a<=x)&&decide (x<b))=false by simp[hb],ak];refine KQ g x l b (pairwise_cons.1 hp).2 (by omega) (λ e he hex hc=>h1 e (dS _ he) hex λe' he'=>?_) λhall=>h2 λe he=>?_
   ·rcases aN.1 he' with rfl |he'
    ·left;have:=(pairwise_cons.1 hp).1 e he;omega
    ·exact hc e' he'
   ·rcases aN.1 he with rfl |he
    ·exact hx
    ·exact hall e he
theorem aeN(g:Int->List aD)(es:List Int)(hp:es.Pairwise (· < ·))(x:Int)
 (h1:∀e∈es,e<=x->(∀ e'∈es,e'<=e\/x<e')->g e=g x) (h2:(∀ e∈es,e<=x)->g x=[]) (h3:(∀ e∈es,x<e)->g x=[]):KO (iZ (λ a b=>(⟨a,b,g a⟩:bQ)) es) x=g x:=by
 cases es with
 |nil=>exact(h3 (by simp)).symm
 |cons a l=>
  by_cases hx:a<=x
  ·exact KQ g x l a hp hx h1 h2
  ·have hall:∀e∈a::l,x<e:=by
    intro e he;rcases aN.1 he with rfl |he
    ·omega
    ·have:=(pairwise_cons.1 hp).1 e he;omega
   rw[KP g x _ hall,h3 hall]
theorem Yg{l:List ay}{z:Int}:z∈gG l↔∃r∈l,z=r.x0\/z=r.x1:=by
 rw[gG,aer,List.mem_flatMap];simp
theorem Nc(l:List ay):(gG l).Pairwise (· < ·):=TQ _
theorem ZX{l:List ay}{es:List Int}(hes:∀r∈l,r.x0∈es/\r.x1∈es){e x:Int}(hex:e<=x)(hc:∀e'∈es,e'<=e\/x<e'):jA l e=jA l x:=by
 unfold jA;congr 1;refine List.filter_congr λr hr=>?_;have⟨h0,h1⟩:=hes r hr;have:=hc _ h0;have:=hc _ h1;rw[kE,aJ,aJ,aT,aT,aT,aT];omega
theorem Qa{l:List ay}{x:Int}(h:∀r∈l,x<r.x0\/r.x1<=x):jA l x=[]:=by
 unfold jA;rw[List.map_eq_nil_iff,List.filter_eq_nil_iff];intro r hr;have:=h r hr;rw[aJ,aT,aT];omega
theorem KR(l:List ay):Yf (bn l):=P9 _ _ (Nc l)
theorem Nf(l:List ay)(x:Int):KO (bn l) x=cK l x:=by
 have hes:∀r∈l,r.x0∈gG l/\r.x1∈gG l:=λr hr=>⟨Yg.2 ⟨r,hr,.inl rfl⟩,Yg.2 ⟨r,hr,.inr rfl⟩⟩;refine aeN (cK l) (gG l) (Nc l) x (λ e _ hex hc=>?_) (λ hall=>?_) (λ hall=>?_)
 ·unfold cK;rw[ZX hes hex hc]
 ·unfold cK;rw[Qa λr hr=> .inr (hall _ (hes r hr).2)];rfl
 ·unfold cK;rw[Qa λr hr=> .inl (hall _ (hes r hr).1)];rfl
theorem ajy{a:List ay}(h:cI a=true):p5 a=(a,0):=by
 unfold cI at h;rw[aJ,aT,aT]at h;obtain⟨h1,h2⟩:=h;exact Prod.ext h2 h1
theorem uX{a:List ay}(h:cI a=true):(∀ r∈a,d5 r=true)/\a.length<=200/\ni (bn a)=a:=by
 have h:=ajy h;unfold p5 at h;split at h
 ·rename_i hall;split at h
  ·simp at h
  ·split at h
   ·simp at h
   ·rename_i qr;injection h with h _;refine⟨all_eq_true.1 hall,?_,h⟩;rw[<- h];omega
 ·simp at h
def ext(ab:List aD)(p:aD):List aD:=
 match ab.getLast? with
 |some q=>bif q.to==p.from_ then ab.dropLast++[⟨q.from_,p.to⟩]else ab++[p]
 |none=>[p]
def kx(a b:List aD):List Int:=B6 ((a++b).flatMap λs=>[s.from_,s.to])
def uY(keep:Bool->Bool->Bool)(a b:List aD):List aD:=
 ((iZ aD.mk (kx a b)).filter λp=>keep (ij a p.from_) (ij b p.from_)).foldl ext []
theorem agZ(o:List aD)(q p:aD):ext (o++[q]) p=bif q.to==p.from_ then o++[⟨q.from_,p.to⟩]else o++[q]++[p]:=by simp[ext]
def rR(keep:Bool->Bool->Bool)(a b:List ay):List bQ:=
 iZ (λ x x'=>(⟨x,x',uY keep (cK a x) (cK b x)⟩:bQ)) (gG (a++b))
def uZ(keep:Bool->Bool->Bool)(a b:List ay):List ay×Int:=
 if cI a&&cI b then(if (ni (rR keep a b)).length>200 then([],6)else(ni (rR keep a b),0))else([],1)
def Yh{α:Type}(a0:List α)(a1:Int)(a2:(α×Int×Unit)->Option Int):(Int×Int)->Option ((Int×Int)⊕Int)
 |(v1,v2)=>(bif (decide (v1<(v2:Int)))then(ck (decide (0<=1)&&decide (1<=IntKind.u64.bits)) ((bo a0 (i64.wrap ((IntKind.u64.wrap (i64.wrap (v1+v2)))/2 ^ (1:Int).toNat))).bind λx1=>(a2 (x1,a1,())).bind λr1=>(bif (decide (r1<(0:Int)))then some (.inl ((i64.wrap ((i64.wrap ((IntKind.u64.wrap (i64.wrap (v1+v2)))/2 ^ (1:Int).toNat))+1)),v2))else some (.inl (v1,(i64.wrap ((IntKind.u64.wrap (i64.wrap (v1+v2)))/2 ^ (1:Int).toNat)))))))else some (.inr v1))
theorem aeO{α:Type}{l:List α}{key:Int}{φ:(α×Int×Unit)->Option Int}(p:α->Bool)(f:α->Int)(hφ:∀x,φ (x,key,())=some (f x))(hf:∀x,decide (f x<0)=p x)
 (hm:∀i j (hj:j<l.length) (hij:i<j),p l[j]=true->p (l[i]'(by omega))=true) (hl:l.length<1099511627776):
 ∀(m i j n:Nat),j -i<=m->i<=j->j<=l.length->(∀ k (hk:k<i) (hkl:k<l.length),p l[k]=true)->(∀ k (hk:j<=k) (hkl:k<l.length),p l[k]=false)->m<n->
 ∃w:Nat,w<=l.length/\iter (Yh l key φ) n ((i:Int),(j:Int))=some (w:Int)/\(∀ k (hk:k<w) (hkl:k<l.length),p l[k]=true)/\∀k (hk:w<=k) (hkl:k<l.length),p l[k]=false:=by
 intro m
 induction m with
 |zero=>
  intro i j n hm0 hij hjl h1 h2 hn;obtain⟨n,rfl⟩:∃q,n=q+1:=⟨n -1,by omega⟩;have:i=j:=by omega
  subst this;exact⟨i,hjl,bJ (by simp[Yh]),h1,h2⟩
 |succ m ih=>
  intro i j n hm0 hij hjl h1 h2 hn;obtain⟨n,rfl⟩:∃q,n=q+1:=⟨n -1,by omega⟩;by_cases hlt:i<j
  ·have c:decide ((i:Int)<(j:Int))=true:=(by simpa using hlt);have c1:(decide (0<=1)&&decide (1<=IntKind.u64.bits))=true:=rfl;have e:i64.wrap ((IntKind.u64.wrap (i64.wrap ((i:Int)+(j:Int))))/2 ^ (1:Int).toNat)=(((i+j)/2:Nat):Int):=by
    rw[Pf (by omega),oN (by omega),show((((i+j:Nat):Int))/2 ^ (1:Int).toNat)=(((i+j)/2:Nat):Int)by
     rw[show (1:Int).toNat=1 from rfl,Int.pow_one];omega,pQ (by omega)]
   have hh:(i+j)/2<l.length:=(by omega);cases hp:p l[(i+j)/2]with
   |true=>
    have s:Yh l key φ ((i:Int),(j:Int))=some (.inl ((((i+j)/2+1:Nat):Int),(j:Int))):=by
     simp only[Yh,c,aj,c1,e,bB hh,ah,hφ,hf,hp];rw[aR (by omega)]
    rw[dx s];refine ih _ _ n (by omega) (by omega) hjl (λ k hk hkl=>?_) h2 (by omega);by_cases hk2:k<(i+j)/2
    ·exact hm k _ hh hk2 hp
    ·have:k=(i+j)/2:=(by omega);subst this;exact hp
   |false=>
    have s:Yh l key φ ((i:Int),(j:Int))=some (.inl ((i:Int),(((i+j)/2:Nat):Int))):=(by simp only[Yh,c,aj,c1,e,bB hh,ah,hφ,hf,hp,ak]);rw[dx s];refine ih _ _ n (by omega) (by omega) (by omega) h1 (λ k hk hkl=>?_) (by omega);by_cases hk2:(i+j)/2<k
    ·cases hpk:p l[k]with
     |false=>rfl
     |true=>have:=hm _ k hkl hk2 hpk;rw[hp]at this;cases this
    ·have:k=(i+j)/2:=(by omega);subst this;exact hp
  ·have:i=j:=(by omega);subst this;exact⟨i,hjl,bJ (by simp[Yh]),h1,h2⟩
theorem alp(l:List bQ)(key:Int)(φ:(bQ×Int×Unit)->Option Int):lZ l key φ=Yh l key φ:=by funext ⟨a,b⟩;rfl
theorem amC(l:List aD)(key:Int)(φ:(aD×Int×Unit)->Option Int):nk l key φ=Yh l key φ:=by funext ⟨a,b⟩;rfl
theorem Yi:∀{l:List bQ},Yf l->l.Pairwise (λ s t=>s.x1<=t.x0)/\∀s∈l,s.x0<s.x1
 |[],_=>⟨List.Pairwise.nil,by simp⟩
 |[s],h=>⟨by simp,λt ht=>by have:t=s:=by simpa using ht
                            subst this;exact h⟩
 |s::t::l,h=>by
  obtain⟨h1,h2,h3⟩:=h;have⟨p1,p2⟩:=Yi h3;refine⟨?_,?_⟩
  ·rw[pairwise_cons];refine⟨λ u hu=>?_,p1⟩;rcases aN.1 hu with rfl |hu
   ·omega
   ·have:=(pairwise_cons.1 p1).1 u hu;have:=p2 t (by simp);omega
  ·intro u hu;rcases aN.1 hu with rfl |hu
   ·exact h1
   ·exact p2 u hu
theorem NN{x:Int}:∀{l:List bQ},(∀ s∈l,¬(s.x0<=x/\x<s.x1))->KO l x=[]
 |[],_=>rfl
 |s::l,h=>by
  have:=h s (by simp);rw[Ba,show(decide (s.x0<=x)&&decide (x<s.x1))=false by rw[Bool.and_eq_false_iff,dN,dN];omega,ak];exact NN λt ht=>h t (by simp[ht])
theorem abt{x:Int}:∀{l:List bQ}{w:Nat}(hw:w<l.length),(∀ k (hk:k<w),¬((l[k]'(by omega)).x0<=x/\x<(l[k]'(by omega)).x1))->l[w].x0<=x->x<l[w].x1->KO l x=l[w].column
 |[],w,hw,_,_,_=>by simp at hw
 |s::l,0,hw,_,h0,h1=>amB h0 h1
 |s::l,w+1,hw,hk,h0,h1=>by
  have hs:=hk 0 (by omega);simp only[List.getElem_cons_zero]at hs;rw[Ba,show(decide (s.x0<=x)&&decide (x<s.x1))=false by rw[Bool.and_eq_false_iff,dN,dN];omega,ak];exact abt (by simpa using hw) (λ k hk'=>by have:=hk (k+1) (by omega);simpa using this) h0 h1
theorem aeP{l:List bQ}{x:Int}(h:Yf l)(hl:l.length<1099511627776)(hn:l.length<n):Ya n l x=some (KO l x):=by
 have⟨a1,a2⟩:=Yi h;rw[List.pairwise_iff_getElem]at a1
 have run:=aeO (l:=l) (key:=x) (φ:=λ(y1:bQ×Int×Unit)=>xQ y1.1 y1.2.1) (λ s=>decide (s.x1<=x)) (λ s=>if s.x1<=x then -1 else 1)
  (λ s=>by show xQ s x=_;unfold xQ;by_cases c:s.x1<=x<;>simp[c]) (λ s=>by by_cases c:s.x1<=x<;>simp[c])
  (λ i j hj hij hp=>by
   rw[aT]at hp ⊢;have:=a1 i j (by omega) hj hij;have:=a2 l[j] (getElem_mem _);omega) hl l.length 0 l.length n (by omega) (by omega) (aQ _) (λ k hk=>by omega) (λ k hk hkl=>by omega) hn
 obtain⟨w,hw,e,h1,h2⟩:=run;unfold Ya jh;rw[alp];have e':iter (Yh l x λ(y1:bQ×Int×Unit)=>xQ y1.1 y1.2.1) n ((0:Int),(l.length:Int))=some (w:Int):=e;rw[e'];simp only[ah];have be:∀b:Int,∃bb,((bif (decide ((w:Int)<((l.length:Int):Int)))then(bo l (w:Int)).bind λx2=>(xQ x2 x).bind λr2=>some ((w:Int),(r2==b))else some ((w:Int),false)):Option (Int×Bool))=some ((w:Int),bb):=by
  intro b;by_cases c:w<l.length
  ·have d:decide ((w:Int)<(l.length:Int))=true:=(by simpa using c);rw[d];simp only[aj];rw[bB c,ah];unfold xQ;cases decide (l[w].x1<=x)<;>exact⟨_,rfl⟩
  ·have d:decide ((w:Int)<(l.length:Int))=false:=(by simp;omega);rw[d];exact⟨_,rfl⟩
 have⟨bb,hbb⟩:=be 0;rw[hbb,ah];simp only[];by_cases c:w<l.length
 ·have d:decide ((w:Int)<(l.length:Int))=true:=by simpa using c
  simp only[d,aj,bB c,ah];have hx1:=h2 w (aQ _) c;rw[dN]at hx1;by_cases c2:l[w].x0<=x
  ·simp only[c2,decide_true,aj];rw[abt c (λ k hk hh=>?_) c2 (by omega)];have:=h1 k hk (by omega);rw[aT]at this;omega
  ·simp only[c2,decide_false,ak];rw[NN λs hs hh=>?_];obtain⟨k,hk,rfl⟩:=mem_iff_getElem.1 hs;rcases Nat.lt_trichotomy k w with zr |rfl |zr
   ·have:=h1 k zr hk;rw[aT]at this;omega
   ·omega
   ·have:=a1 w k c hk zr;have:=a2 l[w] (getElem_mem _);omega
 ·have d:decide ((w:Int)<(l.length:Int))=false:=by simp;omega
  simp only[d,ak,ah];rw[NN λs hs hh=>?_];obtain⟨k,hk,rfl⟩:=mem_iff_getElem.1 hs;have:=h1 k (by omega) hk;rw[aT]at this;omega
theorem Qb{l:List aD}{y:Int}(h:Can l)(hl:l.length<1099511627776)(hn:l.length<n):FC n l y=some (ij l y):=by
 obtain⟨a1,a2⟩:=h;rw[List.pairwise_iff_getElem]at a1
 have run:=aeO (l:=l) (key:=y) (φ:=λ(y1:aD×Int×Unit)=>l5 y1.1 y1.2.1) (λ s=>decide (s.to<=y)) (λ s=>if s.to<=y then -1 else 1)
  (λ s=>by show l5 s y=_;unfold l5;by_cases c:s.to<=y<;>simp[c]) (λ s=>by by_cases c:s.to<=y<;>simp[c])
  (λ i j hj hij hp=>by
   rw[aT]at hp ⊢;have:=a1 i j (by omega) hj hij;have:l[j].from_<l[j].to:=a2 l[j] (getElem_mem _);omega) hl l.length 0 l.length n (by omega) (by omega) (aQ _) (λ k hk=>by omega) (λ k hk hkl=>by omega) hn
 obtain⟨w,hw,e,h1,h2⟩:=run;unfold FC jD;rw[amC];have e':iter (Yh l y λ(y1:aD×Int×Unit)=>l5 y1.1 y1.2.1) n ((0:Int),(l.length:Int))=some (w:Int):=e;rw[e'];simp only[ah];have be:∀b:Int,∃bb,((bif (decide ((w:Int)<((l.length:Int):Int)))then(bo l (w:Int)).bind λx2=>(l5 x2 y).bind λr2=>some ((w:Int),(r2==b))else some ((w:Int),false)):Option (Int×Bool))=some ((w:Int),bb):=by
  intro b;by_cases c:w<l.length
  ·have d:decide ((w:Int)<(l.length:Int))=true:=(by simpa using c);rw[d];simp only[aj];rw[bB c,ah];unfold l5;cases decide (l[w].to<=y)<;>exact⟨_,rfl⟩
  ·have d:decide ((w:Int)<(l.length:Int))=false:=(by simp;omega);rw[d];exact⟨_,rfl⟩
 have⟨bb,hbb⟩:=be 0;rw[hbb,ah];simp only[];by_cases c:w<l.length
 ·have d:decide ((w:Int)<(l.length:Int))=true:=by simpa using c
  simp only[d,aj,bB c,ah];have hx1:=h2 w (aQ _) c;rw[dN]at hx1;congr 1;rw[kE,aT,P5];constructor
  ·exact λhf=>⟨l[w],getElem_mem _,hf,by omega⟩
  ·rintro⟨s,hs,g1,g2⟩;obtain⟨k,hk,rfl⟩:=mem_iff_getElem.1 hs;rcases Nat.lt_trichotomy k w with zr |rfl |zr
   ·have:=h1 k zr hk;rw[aT]at this;omega
   ·exact g1
   ·have:=a1 w k c hk zr;omega
 ·have d:decide ((w:Int)<(l.length:Int))=false:=by simp;omega
  simp only[d,ak];congr 1;symm;cases hh:ij l y with
  |false=>rfl
  |true=>
   obtain⟨s,hs,g1,g2⟩:=(P5 _ _).1 hh;obtain⟨k,hk,rfl⟩:=mem_iff_getElem.1 hs;have:=h1 k (by omega) hk;rw[aT]at this;omega
theorem Qc{l:List (List aD)}(hf:l.flatten.length<1099511627776)(hl:l.length<1099511627776)(hn:l.length<n):AU n l=some l.flatten:=Pe (aD.mk 0 0) (b:=16) hf (by omega) hl hn
theorem Qd(l:List aD):(l.flatMap λr=>[r.from_,r.to]).length=2*l.length:=by
 induction l with
 |nil=>rfl
 |cons x l ih=>simp only[List.flatMap_cons,dH,ih,bF,length_nil];omega
theorem UB{l:List aD}(hl:l.length<10995116277)(hn:l.length<n):iter (xR l) n ((0:Int),([]:List Int))=some (l.flatMap λr=>[r.from_,r.to]):=by
 have:=gm (l:=l) (step:=xR l) (λ i (s:List Int)=>((i:Int),s)) (λ r s=>s++[r.from_,r.to]) (λ s=>s) (λ i s=>s.length<=2*i)
  (λ i hi s hs=>?_) (λ s hs=>by simp[xR]) n hn [] (aQ _)
 ·rw[show ((0:Nat):Int)=0 from rfl]at this;rw[this];have gen:∀(ys:List aD)(s:List Int),ys.foldl (λ s r=>s++[r.from_,r.to]) s=s++ys.flatMap λr=>[r.from_,r.to]:=by
   intro ys
   induction ys with
   |nil=>intro s;simp
   |cons y ys ih=>intro s;simp[ih]
  congr 1;simpa using gen l []
 ·have hi':decide ((i:Int)<(l.length:Int))=true:=by simpa using hi
  have ap:bR s.length s.length (sub ([l[i].from_,l[i].to]:List Int) 0 2).length 2 8=true:=eX (n:=2);simp only[xR,hi',aj,bE hi,bM hi,ah,ap,fG,aG];refine⟨?_,by simp;omega⟩;rw[aR (by omega)];rfl
theorem NP{α β:Type}(p:α->Bool)(f:β->α->β):∀(l:List α)(s:β),(l.filter p).foldl f s=l.foldl (λ s x=>bif p x then f s x else s) s
 |[],s=>rfl
 |x::l,s=>by
  rw[List.filter_cons,foldl_cons];cases h:p x with
  |true=>simp only[if_true,foldl_cons,aj];exact NP p f l _
  |false=>simp only[Bool.false_eq_true,if_false,ak];exact NP p f l _
theorem Yj(ab:List aD)(p:aD):(ext ab p).length<=ab.length+1:=by
 unfold ext;cases ab.getLast? with
 |none=>simp
 |some q=>simp only;cases q.to==p.from_<;>simp<;>omega
theorem Yk(a b:List aD):(kx a b).length<=2*(a.length+b.length):=by
 have h:=sI (kY (λ a b=>decide (a<b)) ((a++b).flatMap λr=>[r.from_,r.to]));rw[eO,Qd,dH]at h;exact h
theorem ZY(keep:Bool->Bool->Bool)(a b:List aD):(uY keep a b).length<=2*(a.length+b.length):=by
 have gen:∀(ys ab:List aD),(ys.foldl ext ab).length<=ab.length+ys.length:=by
  intro ys
  induction ys with
  |nil=>intro ab;simp
  |cons y ys ih=>
   intro ab;simp only[foldl_cons,bF];have:=ih (ext ab y);have:=Yj ab y;omega
 have h:=gen ((iZ aD.mk (kx a b)).filter λp=>keep (ij a p.from_) (ij b p.from_)) [];have h2:=length_filter_le (λ p=>keep (ij a p.from_) (ij b p.from_)) (iZ aD.mk (kx a b));have h3:=(sZ aD.mk (kx a b)).1;have h4:=Yk a b;simp only[length_nil]at h;unfold uY;omega
theorem aeQ{keep:Bool->Bool->Bool}{φ:(Bool×Bool×Unit)->Option Bool}(hφ:∀p q,φ (p,q,())=some (keep p q)){a b:List aD}(ha:Can a)(hb:Can b)(hl:a.length+b.length<1099511627)(hn:2*(a.length+b.length)+2<n):KF n a b φ=some (uY keep a b):=by
 have fl:[a,b].flatten=a++b:=by simp
 have s2:(sub ([a,b]:List (List aD)) 0 2)=[a,b]:=rfl;have q2:bk ([a,b]:List (List aD)).length 2=true:=rfl;have hys:=Yk a b;have hfl:((a++b).flatMap λr=>[r.from_,r.to]).length=2*(a.length+b.length):=by rw[Qd,dH]
 unfold KF;rw[s2,q2];simp only[aj];rw[Qc (by rw[fl,dH];omega) (by simp) (by simp;omega),fl];simp only[ah,length_nil,aG,aj,UB (l:=a++b) (n:=n) (by rw[dH];omega) (by rw[dH];omega)];rw[pW (by rw[hfl];omega) (by rw[hfl];omega)];simp only[ah,eO,aG,aj];rw[uV (by rw[eO,hfl];omega) (by rw[eO,hfl];omega)];simp only[ah];have hE:gQ (kY mn ((a++b).flatMap λr=>[r.from_,r.to]))=kx a b:=rfl;rw[hE];have⟨p1,p2⟩:=sZ aD.mk (kx a b);have key:iter (xS n a b φ ((),kx a b)) n ((1:Int),([]:List aD))=some (uY keep a b):=by
  have:=gm (l:=iZ aD.mk (kx a b)) (step:=xS n a b φ ((),kx a b)) (λ i (s:List aD)=>(((i+1:Nat):Int),s)) (λ p s=>bif keep (ij a p.from_) (ij b p.from_)then ext s p else s) (λ s=>s) (λ i s=>s.length<=i)
   (λ i hi s hs=>?_) (λ s hs=>?_) n (by omega) [] (aQ _)
  ·rw[show ((0+1:Nat):Int)=1 from rfl]at this;rw[this,uY,NP]
  ·have hi2:i+1<(kx a b).length:=(by omega);have hi1:i<(kx a b).length:=(by omega);have d:decide (((i+1:Nat):Int)<(((kx a b).length:Nat):Int))=true:=(by simp;omega);have wp:i64.wrap (((i+1:Nat):Int) -1)=(i:Int):=(by rw[lC (by omega) (by omega)];rfl);have pe:(iZ aD.mk (kx a b))[i]=aD.mk (kx a b)[i] (kx a b)[i+1]:=p2 i hi2 hi;rw[pe];have lx:=Yj s (aD.mk (kx a b)[i] (kx a b)[i+1]);have ap:bR s.length s.length (sub ([(aD.mk (kx a b)[i] (kx a b)[i+1])]:List aD) 0 1).length 1 16=true:=eX (n:=1);have sb:(sub ([(aD.mk (kx a b)[i] (kx a b)[i+1])]:List aD) 0 1)=[aD.mk (kx a b)[i] (kx a b)[i+1]]:=rfl;refine⟨?_,by cases keep (ij a (kx a b)[i]) (ij b (kx a b)[i])<;>simp only[aj,ak]<;>omega⟩;simp only[xS,d,aj,wp,bE hi1,bM hi1,ah,Qb (n:=n) ha (show a.length<1099511627776 by omega) (show a.length<n by omega),Qb (n:=n) hb (show b.length<1099511627776 by omega) (show b.length<n by omega),hφ];cases hk:keep (ij a (kx a b)[i]) (ij b (kx a b)[i])with
   |false=>
    simp only[Bool.not_false,aj,aG,ah,ak];rw[aR (by omega)]
   |true=>
    simp only[Bool.not_true,ak,aj];rcases List.eq_nil_or_concat s with rfl |⟨s0,q,GG⟩
    ·have d0:decide (((([]:List aD).length:Nat):Int)>0)=false:=(by simp);simp only[d0,ak,ah,bE hi2,bM hi2,aj,ap,fG,aG];rw[aR (by omega)];rfl
    ·rw[List.concat_eq_append]at GG;subst GG;have d0:decide (((((s0++[q]).length:Nat):Int))>0)=true:=(by simp<;>omega);have yr:(s0++[q]).length=s0.length+1:=(by simp);have wq:i64.wrap ((((s0++[q]).length:Nat):Int) -1)=(s0.length:Int):=(by rw[lC (by simp) (by omega),yr];rfl);have ON:b9 (s0.length:Int) (s0++[q]).length=true:=bE (by omega);have g:bo (s0++[q]) (((0:Nat):Int)+(s0.length:Int))=some q:=(by rw[zm];simp);have z:(((0:Nat):Int)+(s0.length:Int)).toNat=s0.length:=(by simp);have st:(s0++[q]).set s0.length (aD.mk q.from_ (kx a b)[i+1])=s0++[⟨q.from_,(kx a b)[i+1]⟩]:=(by simp);simp only[d0,aj,wq,ON,g,ah,agZ];cases hj:q.to==(kx a b)[i]with
     |true=>
      simp only[aj,bE hi2,bM hi2,ah,z,st];have e:bk (s0++[q]).length (s0++[(⟨q.from_,(kx a b)[i+1]⟩:aD)]).length=true:=(by simp);simp only[e,aj,ah,aG];rw[aR (by omega)]
     |false=>
      rw[sb]at ap;simp only[ak,bE hi2,bM hi2,ah,aj,sb,ap,fG,aG];rw[aR (by omega)]
  ·have d:decide ((((iZ aD.mk (kx a b)).length+1:Nat):Int)<(((kx a b).length:Nat):Int))=false:=(by simp;omega);simp only[xS,d,ak,aG,aj]
 rw[key];simp only[ah,cZ,aG,aj]
theorem FN(keep:Bool->Bool->Bool)(a b:List ay):rR keep a b=(bn (a++b)).map λs=>⟨s.x0,s.x1,uY keep (cK a s.x0) (cK b s.x0)⟩:=by
 have gen:∀es:List Int,iZ (λ x x'=>(⟨x,x',uY keep (cK a x) (cK b x)⟩:bQ)) es=(iZ (λ x x'=>(⟨x,x',cK (a++b) x⟩:bQ)) es).map λs=>⟨s.x0,s.x1,uY keep (cK a s.x0) (cK b s.x0)⟩:=by
  intro es
  match es with
  |[]=>rfl
  |[_]=>rfl
  |x::y::l=>
   rw[qx,qx,aC];congr 1;have:∀es:List Int,iZ (λ x x'=>(⟨x,x',uY keep (cK a x) (cK b x)⟩:bQ)) es=(iZ (λ x x'=>(⟨x,x',cK (a++b) x⟩:bQ)) es).map λs=>⟨s.x0,s.x1,uY keep (cK a s.x0) (cK b s.x0)⟩:=by
    intro es
    induction es with
    |nil=>rfl
    |cons x es ih=>
     cases es with
     |nil=>rfl
     |cons y es=>rw[qx,qx,aC,ih]
   exact this (y::l)
 exact gen (gG (a++b))
theorem Z0{keep:Bool->Bool->Bool}{φ:(Bool×Bool×Unit)->Option Bool}(hφ:∀p q,φ (p,q,())=some (keep p q)){a b:List ay}(ha:a.length<1099511627776)(hb:b.length<1099511627776)(hna:a.length<n)(hnb:b.length<n)(hn:1000<=n):Hl n a b φ=some (uZ keep a b):=by
 unfold Hl uZ;rw[mH ha hna hn,ah];cases hra:cI a with
 |false=>rfl
 |true=>
  rw[mH hb hnb hn];simp only[Bool.not_true,ak,ah,Bool.true_and];cases hrb:cI b with
  |false=>rfl
  |true=>
   have⟨a1,a2,_⟩:=uX hra;have⟨b1,b2,_⟩:=uX hrb;have fa:[a].flatten=a:=(by simp);have fb:[b].flatten=b:=(by simp);have fab:[a,b].flatten=a++b:=(by simp);have hab:∀r∈a++b,d5 r=true:=λr hr=>by
    rcases aX.1 hr with hr |hr
    ·exact a1 r hr
    ·exact b1 r hr
   have sa:oP n [a]=some (bn a):=by
    have:=zP (n:=n) (ls:=[a]) (by rw[fa];exact a1) (by rw[fa];omega) (by simp) (by rw[fa];omega) (by simp;omega)
    rwa [fa]at this
   have sb:oP n [b]=some (bn b):=by
    have:=zP (n:=n) (ls:=[b]) (by rw[fb];exact b1) (by rw[fb];omega) (by simp) (by rw[fb];omega) (by simp;omega)
    rwa [fb]at this
   have lab:(a++b).length=a.length+b.length:=dH;have sab:oP n [a,b]=some (bn (a++b)):=by
    have:=zP (n:=n) (ls:=[a,b]) (by rw[fab];exact hab) (by rw[fab,lab];omega) (by simp) (by rw[fab,lab];omega) (by simp;omega)
    rwa [fab]at this
   have e1:(sub ([a]:List (List ay)) 0 1)=[a]:=rfl;have e2:(sub ([b]:List (List ay)) 0 1)=[b]:=rfl;have e3:(sub ([a,b]:List (List ay)) 0 2)=[a,b]:=rfl;have q1:bk ([a]:List (List ay)).length 1=true:=rfl;have q2:bk ([b]:List (List ay)).length 1=true:=rfl;have q3:bk ([a,b]:List (List ay)).length 2=true:=rfl;have la:=uW a;have lb:=uW b;have lS:=uW (a++b);rw[lab]at lS;have mc:∀x,(cK a x).length<=200/\(cK b x).length<=200:=λx=>⟨Nat.le_trans (A8 a x) a2,Nat.le_trans (A8 b x) b2⟩;have lm:∀x,(uY keep (cK a x) (cK b x)).length<=800:=λx=>by
    have:=ZY keep (cK a x) (cK b x);have:=mc x;omega
   have key:iter (rH n φ (bn a) (bn b) (bn (a++b))) n ((0:Int),bn (a++b))=some (rR keep a b):=by
    have:=nu (step:=rH n φ (bn a) (bn b) (bn (a++b))) (λ i=>((i:Int),(rR keep a b).take i++(bn (a++b)).drop i)) (bn (a++b)).length (rR keep a b) (λ i hi=>?_) ?_ n (by omega)
    ·simpa using this
    ·have d:decide ((i:Int)<(((bn (a++b)).length:Nat):Int))=true:=(by simpa using hi);have lc:(rR keep a b).length=(bn (a++b)).length:=(by rw[FN,length_map]);have lt:((rR keep a b).take i).length=i:=(by rw[length_take];omega);have hd:(bn (a++b)).drop i=(bn (a++b))[i]::(bn (a++b)).drop (i+1):=List.drop_eq_getElem_cons hi;have g:bo ((rR keep a b).take i++(bn (a++b)).drop i) (((0:Nat):Int)+(i:Int))=some (bn (a++b))[i]:=(by rw[zm,iK (by omega),lt,hd];simp);have st:∀s:bQ,((rR keep a b).take i++(bn (a++b)).drop i).set i s=(rR keep a b).take i++s::(bn (a++b)).drop (i+1):=by
      intro s;rw[List.set_append_right _ _ (by omega),lt,hd,Nat.sub_self];rfl
     have z:(((0:Nat):Int)+(i:Int)).toNat=i:=(by simp);have tk:(rR keep a b).take (i+1)=(rR keep a b).take i++[⟨(bn (a++b))[i].x0,(bn (a++b))[i].x1,uY keep (cK a (bn (a++b))[i].x0) (cK b (bn (a++b))[i].x0)⟩]:=by
      rw[j4 (by omega)];congr 2;simp only[FN,List.getElem_map]
     have hm:=mc (bn (a++b))[i].x0;have mg:KF n (cK a (bn (a++b))[i].x0) (cK b (bn (a++b))[i].x0) φ=some (uY keep (cK a (bn (a++b))[i].x0) (cK b (bn (a++b))[i].x0)):=
      aeQ hφ (P8 a1 _).1 (P8 b1 _).1 (by omega) (by omega)
     have at1:Ya n (bn a) (bn (a++b))[i].x0=some (cK a (bn (a++b))[i].x0):=(by rw[aeP (KR a) (by omega) (by omega),Nf]);have at2:Ya n (bn b) (bn (a++b))[i].x0=some (cK b (bn (a++b))[i].x0):=(by rw[aeP (KR b) (by omega) (by omega),Nf]);simp only[rH,d,aj,bE hi,g,ah,cZ,at1,at2,mg,aG,z,st];rw[aR (by omega),tk,aK];rfl
    ·have lc:(rR keep a b).length=(bn (a++b)).length:=(by rw[FN,length_map]);have d:decide ((((bn (a++b)).length:Nat):Int)<(((bn (a++b)).length:Nat):Int))=false:=(by simp);simp only[rH,d,ak,List.drop_length,append_nil];rw[take_of_length_le (by omega)]
   have lc:(rR keep a b).length=(bn (a++b)).length:=(by rw[FN,length_map]);have cc:∀s∈rR keep a b,s.column.length<=800:=by
    intro s hs;rw[FN,mem_map]at hs;obtain⟨t,_,rfl⟩:=hs;exact lm _
   have sl:sub (rR keep a b) 0 (bn (a++b)).length=rR keep a b:=(by rw[<- lc,cZ]);simp only[Bool.not_true,ak,e1,e2,e3,q1,q2,q3,aj,sa,sb,sab,ah,cZ,aG,key,sl,lc];rw[T9 (b:=800) (by omega) (by omega) cc (by omega) (by omega)];simp only[ah,cZ,aG,aj,AR,if_true,Bool.and_self];by_cases qr:(ni (rR keep a b)).length>200
   ·have:decide (((ni (rR keep a b)).length:Int)>200)=true:=(by simp;omega);simp only[this,aj,ah,qr,if_true]
   ·have:decide (((ni (rR keep a b)).length:Int)>200)=false:=(by simp;omega);simp only[this,ak,ah,qr,if_false]
theorem acP{a b:List ay}(ha:a.length<1099511627776)(hb:b.length<1099511627776)(hna:a.length<n)(hnb:b.length<n)(hn:1000<=n):LX n a b=some (uZ (λ p q=>p&&q) a b):=by
 unfold LX;rw[Z0 (keep:=λp q=>p&&q) (λ p q=>by show zC p q=_;unfold zC;cases p<;>rfl) ha hb hna hnb hn];rfl
theorem acQ{keep:Bool->Bool->Bool}(a b:List ay):(uZ keep a b).1.length<=200:=by
 unfold uZ;split
 ·split
  ·simp
  ·show(ni _).length<=200;omega
 ·simp
def Ua(r:ay):Int:=(r.x1 -r.x0)*(r.y1 -r.y0)
def NQ(l:List ay):Int:=(l.map Ua).sum
theorem KS{r:ay}(h:d5 r=true):0<=Ua r/\Ua r<=1099511627776:=by
 simp only[d5,aJ,aT]at h;unfold Ua;refine⟨Int.mul_nonneg (by omega) (by omega),?_⟩;have:=Int.mul_le_mul (show r.x1 -r.x0<=1048576 by omega) (show r.y1 -r.y0<=1048576 by omega) (by omega) (by omega);omega
theorem Yl:∀{l:List ay},(∀ r∈l,d5 r=true)->0<=NQ l/\NQ l<=1099511627776*(l.length:Int)
 |[],_=>by simp[NQ]
 |r::l,h=>by
  have h1:=KS (h r mem_cons_self);have h2:=Yl (l:=l) λq hq=>h q (dS _ hq);have e:NQ (r::l)=Ua r+NQ l:=rfl;rw[e,bF]
  push_cast
  omega
theorem KT{l:List ay}{φ:(ay×Unit)->Option Bool}(p:ay->Bool)(h:∀x∈l,φ (x,())=some (p x))(hl:l.length<1099511627776)(hn:l.length<n):uS n l φ=some (Dz p l):=iH p h hl hn
theorem tY{l:List ay}{φ:(ay×Unit)->Option Bool}(p:ay->Bool)(h:∀x∈l,φ (x,())=some (p x))(hl:l.length<1099511627776)(hn:l.length<n):jk n l φ=some (l.any p):=by
 unfold jk;rw[KT p h hl hn,ah,zo]
theorem abu:∀(l:List Int)(x:Int),(l++[x]).sum=l.sum+x
 |[],x=>by simp
 |a::l,x=>by rw[List.cons_append,List.sum_cons,List.sum_cons,abu l x];omega
theorem ajz{r:ay}(h:d5 r=true):AX r=some (Ua r):=by
 have hb:=KS h;unfold AX Ag;rw[jE,h];simp only[ah,aj];simp only[d5,aJ,aT]at h;unfold Ua at*;rw[bU (x:=r.x1 -r.x0),bU (x:=r.y1 -r.y0),bU (by omega) (by omega)]
theorem Ym{a:List ay}(ha:a.length<=900)(hn:1000<=n):PV n a=some (bif cI a then NQ a else 0):=by
 unfold PV;rw[mH (by omega) (by omega) hn];simp only[ah];cases hr:cI a with
 |false=>rfl
 |true=>
  have ok:=(uX hr).1;have:=nu (step:=Ho a) (λ i=>(NQ (a.take i),(i:Int))) a.length (NQ a) (λ i hi=>?_) ?_ n (by omega)
  ·have e:NQ (a.take 0)=0:=rfl;rw[e,show((0:Nat):Int)=0 from rfl]at this;simp only[Bool.not_true,ak,aj,this,ah]
  ·have c:decide ((i:Int)<(a.length:Int))=true:=(by simpa using hi);have h1:=Yl (l:=a.take i) λr hr=>ok r (List.mem_of_mem_take hr);rw[length_take]at h1;have h2:=KS (ok _ (getElem_mem hi));have e:NQ (a.take (i+1))=NQ (a.take i)+Ua a[i]:=(by rw[j4 hi];unfold NQ;rw[List.map_append];exact abu _ _);simp only[Ho,c,aj,bB hi,ah,ajz (ok _ (getElem_mem hi))];rw[aR (by omega),bU (by omega) (by omega),e]
  ·simp[Ho]
theorem RU{α:Type}(p:α->Bool)(l:List α):(match pq p l with |some _=>true |none=>false)=l.any p:=by
 have:=uy p l;rw[<- this];cases pq p l<;>rfl
def Ln(p q:ay):Bool:=decide (max p.x0 q.x0<min p.x1 q.x1)&&decide (max p.y0 q.y0<min p.y1 q.y1)
def H2(a b:List ay):Bool:=a.any λp=>b.any λq=>Ln p q
theorem ag0{a b:List ay}(ha:a.length<1099511627776)(hb:b.length<1099511627776)(hna:a.length<n)(hnb:b.length<n):VD n a b=some (H2 a b):=by
 unfold VD H2;rw[tY (λ p=>b.any λq=>Ln p q) (λ p _=>?_) ha hna]
 ·rfl
 ·show Hy n p b=_;unfold Hy;rw[tY (λ q=>Ln p q) (λ q _=>?_) hb hnb]
  ·rfl
  ·show wY q p=_;unfold wY Ln;have e1:max q.x0 p.x0=max p.x0 q.x0:=(by omega);have e2:min q.x1 p.x1=min p.x1 q.x1:=(by omega);have e3:max q.y0 p.y0=max p.y0 q.y0:=(by omega);have e4:min q.y1 p.y1=min p.y1 q.y1:=by omega
   first
    |(cases decide (max p.x0 q.x0<min p.x1 q.x1)<;>rfl)
    |(rw [e1,e2,e3,e4];cases decide (max p.x0 q.x0<min p.x1 q.x1)<;>rfl)
theorem ag1{a b:List ay}(hl:a.length<1099511627776)(hn:a.length<n):VB n a b=some (decide (a=b)):=by
 unfold VB;rw[FK hl hn];rfl
abbrev ur(a b:ay):Bool:=decide (a.y0<b.y0)
theorem ais:Go.Sort.SWO ur where
 irrefl x:=by simp[ur]
 trans x y z h1 h2:=by simp only[ur,aT]at *;omega
 ntrans x y z h1 h2:=by simp only[ur,dN]at *;omega
instance:Inhabited ay:=⟨ay.mk 0 0 0 0⟩
theorem ajA(n:Nat)(rc:List ay->Int->Int->Int->((ay×ay×Unit)->Option Int)->Option (List ay))(φ:(ay×ay×Unit)->Option Int)(l:List ay)(a b d:Int):jc n rc l a b d φ=kJ (λ x y=>φ (x,y,())) (λ r=>decide (r<0)) bA bI n (λ l a b d=>rc l a b d φ) l a b d:=by kernel_rfl
theorem abv(n:Nat)(φ:(ay×ay×Unit)->Option Int):∀m l a b d,eF n m l a b d φ=iX (λ x y=>φ (x,y,())) (λ r=>decide (r<0)) bA bI n m l a b d
 | 0,l,a,b,d=>rfl
 |m+1,l,a,b,d=>by
  have e:(λ l a b d=>eF n m l a b d φ)=iX (λ x y=>φ (x,y,())) (λ r=>decide (r<0)) bA bI n m:=by
   funext l a b d;exact abv n φ m l a b d
  show jc n (eF n m) l a b d φ=kJ (λ x y=>φ (x,y,())) (λ r=>decide (r<0)) bA bI n (iX (λ x y=>φ (x,y,())) (λ r=>decide (r<0)) bA bI n m) l a b d;rw[<- e];exact ajA n (eF n m) φ l a b d
theorem Mr{l:List ay}{φ:(ay×ay×Unit)->Option Int}(f:ay->ay->Int)(hφ:∀x y,φ (x,y,())=some (f x y))(hf:∀x y,decide (f x y<0)=ur x y)(hl:l.length<1099511627776)(hn:l.length<n):qw n l φ=some (AJ ur l):=by
 unfold qw oh;rw[oN (by omega),Dg (by omega)];simp only[ah,aG,aj,abv];rw[AL (lt:=ur) ais (f:=f) (q:=λr=>decide (r<0)) hφ hf Tu Ts (by omega) hn hn];rfl
structure aoH(R:List bQ):Prop where
 runs:Runs R
 len:R.length<=200
 col:∀s∈R,Can s.column/\∀q∈s.column,0<=q.from_/\q.from_<q.to/\q.to<=1048576
 xs:∀s∈R,0<=s.x0/\s.x0<s.x1/\s.x1<=1048576
 wA:(R.flatMap λs=>s.column.map (·.from_)).length<=200
theorem ag2(p:Nat->Bool)(N:Nat):(pq p (List.range N)=none->(List.range N).any p=false)/\(∀ i,pq p (List.range N)=some i->(List.range N).any p=true):=by
 refine⟨λ h=>?_,λi h=>?_⟩
 ·rw[<- uy,h];rfl
 ·rw[<- uy,h];rfl
theorem KU{W O:Type}{step:Int->Option (Int⊕(W⊕O))}(N:Nat)(p:Nat->Bool)(w:W)(o:O)
 (h:∀i,i<N->step (i:Int)=some (bif p i then .inr (.inr o)else .inl ((i+1:Nat):Int)))
 (hend:step (N:Int)=some (.inr (.inl w))) (n:Nat) (hn:N<n):iter step n (0:Int)=some (bif (List.range N).any p then .inr o else .inl w):=by
 have:=tL (l:=List.range N) (step:=step) (λ i=>(i:Int)) p w (λ _=>o) (λ i hi=>by
  rw[List.length_range]at hi;rw[List.getElem_range];exact h i hi) (by rw[List.length_range];exact hend) n (by rw[List.length_range];exact hn)
 rw[show ((0:Nat):Int)=0 from rfl]at this;rw[this];have⟨r1,r2⟩:=ag2 p N;cases hf:pq p (List.range N)with
 |none=>rw[r1 hf];rfl
 |some i=>rw[r2 i hf];rfl
theorem KV{p:List dJ}(hl:p.length<=1000)(hn:2000<=n):iter (qi n p (gB p)) n (0:Int)=some (bif (List.range p.length).any (HK p)then .inr false else .inl ()):=by
 refine KU p.length (HK p) () false (λ i hi=>?_) ?_ n (by omega)
 ·have nz:((p.length:Int) !=0)=true:=by simp;intro h;rw[h]at hi;simp at hi
  have md:(i+1)%p.length<p.length:=Nat.mod_lt _ (by omega);have w:i64.wrap ((i:Int)+1)=((i+1:Nat):Int):=aR (by omega);have g1:bo (gB p) (((0:Nat):Int)+(i:Int))=some (jl p i):=by rw[bM (by rw[dX];exact hi),A9]
  have g2:bo (gB p) (((0:Nat):Int)+(((i+1)%p.length:Nat):Int))=some (jl p ((i+1)%p.length)):=by rw[bM (by rw[dX];exact md),A9]
  obtain⟨r,hr1,hr2⟩:=NK (n:=n) (pw p 0) (pw p i) (by omega);have g3:bo p 0=some (pw p 0):=by rw[amn (by omega),<- VG]
  have g4:bo p (i:Int)=some (pw p i):=by rw[bB hi,<- VG]
  have dz:decide ((i:Int)>0)=decide (0<i):=by rw[kE];simp
  have pt:dJ.mk (jl p i).lE (jl p i).pp=pw p i:=rfl;simp only[qi,dX,dR hi,aj,bE hi,g1,g2,ah,nz,w,abr,bE md,pt,P7,nN,P6,g3,g4,hr1,hr2,dz,Option.map_some];unfold HK;generalize VH (pw p i)=b1;generalize (((jl p i).lE==(jl p i).me)==((jl p i).pp==(jl p i).tp))=b2;generalize (tw (jl p i)==tw (jl p ((i+1)%p.length)))=b3;generalize decide (0<i)=b4;generalize VI (pw p 0) (pw p i)=b5;cases b1<;>cases b2<;>cases b3<;>cases b4<;>cases b5<;>rfl
 ·simp only[qi,dX,fO,ak]
theorem KW{p:List dJ}(hl:p.length<=1000)(hn:2000<=n){i:Nat}(hi:i<p.length):
 iter (iY (gB p) (i:Int)) n (((i+2:Nat):Int))=some (bif (List.range p.length).any λk=>decide (i+2<=k)&&UA p i k then .inr (.inr (.inr false))else .inl ()):=by
 have st:∀k,k<p.length->iY (gB p) (i:Int) (k:Int)=some (bif UA p i k then .inr (.inr (.inr (.inr false)))else .inl ((k+1:Nat):Int)):=by
  intro k hk;have g1:bo (gB p) (((0:Nat):Int)+(i:Int))=some (jl p i):=by rw[bM (by rw[dX];exact hi),A9]
  have g2:bo (gB p) (((0:Nat):Int)+(k:Int))=some (jl p k):=by rw[bM (by rw[dX];exact hk),A9]
  have w:i64.wrap (i64.wrap ((i:Int)+(p.length:Int)) -(k:Int))=((i+p.length -k:Nat):Int):=by rw[bU (x:=(i:Int)+(p.length:Int)),bU (by omega) (by omega)];omega
  have dz:decide (((i+p.length -k:Nat):Int)>1)=decide (i+p.length -k>1):=by rw[kE,aT,aT];omega
  simp only[iY,dX,dR hk,aj,bE hi,bE hk,g1,g2,ah,w,dz,FM,P6,Option.map_some,aW k];unfold UA;cases decide (i+p.length -k>1)<;>cases Mn (jl p i) (jl p k)<;>rfl
 have main:∀m k,k+m=p.length->∀f,m<f->iter (iY (gB p) (i:Int)) f (k:Int)=some (bif (List.range p.length).any λj=>decide (k<=j)&&UA p i j then .inr (.inr (.inr false))else .inl ()):=by
  intro m
  induction m with
  |zero=>
   intro k hk f hf;obtain⟨f,rfl⟩:∃g,f=g+1:=⟨f -1,by omega⟩;have:k=p.length:=(by omega);subst this;have e:((List.range p.length).any λj=>decide (p.length<=j)&&UA p i j)=false:=by
    rw[Bool.eq_false_iff];intro h;rw[any_eq_true]at h;obtain⟨j,h1,h2⟩:=h;rw[List.mem_range]at h1;simp only[aJ,aT]at h2;omega
   rw[e];refine bJ ?_;simp only[iY,dX,fO,ak]
  |succ m ih=>
   intro k hk f hf;obtain⟨f,rfl⟩:∃g,f=g+1:=⟨f -1,by omega⟩;have hkl:k<p.length:=(by omega);have h1:=st k hkl;cases hb:UA p i k with
   |true=>
    rw[hb]at h1;have e:((List.range p.length).any λj=>decide (k<=j)&&UA p i j)=true:=by
     rw[any_eq_true];exact⟨k,List.mem_range.2 hkl,by simp[hb]⟩
    rw[e];exact bJ h1
   |false=>
    rw[hb]at h1;rw[dx h1,ih (k+1) (by omega) f (by omega)];congr 2;rw[kE,any_eq_true,any_eq_true];constructor
    ·rintro⟨j,j1,j2⟩;simp only[aJ,aT]at j2;exact⟨j,j1,by simp only[aJ,aT];exact⟨by omega,j2.2⟩⟩
    ·rintro⟨j,j1,j2⟩;simp only[aJ,aT]at j2;refine⟨j,j1,?_⟩;simp only[aJ,aT];refine⟨?_,j2.2⟩;rcases Nat.lt_or_ge k j with h |h
     ·omega
     ·have:j=k:=(by omega);subst this;rw[hb]at j2;simp at j2
 by_cases h2:i+2<=p.length
 ·exact main (p.length -(i+2)) (i+2) (by omega) n (by omega)
 ·obtain⟨n,rfl⟩:∃g,n=g+1:=⟨n -1,by omega⟩;have e:((List.range p.length).any λj=>decide (i+2<=j)&&UA p i j)=false:=by
   rw[Bool.eq_false_iff];intro h;rw[any_eq_true]at h;obtain⟨j,h1,h2⟩:=h;rw[List.mem_range]at h1;simp only[aJ,aT]at h2;omega
  rw[e];have d:decide (((i+2:Nat):Int)<(p.length:Int))=false:=by rw[dN];omega
  refine bJ ?_;simp only[iY,dX,d,ak]
theorem KX{p:List dJ}(hl:p.length<=1000)(hn:2000<=n):iter (qj n (gB p)) n (0:Int)=some (bif (List.range p.length).any λi=>(List.range p.length).any λk=>decide (i+2<=k)&&UA p i k then .inr false else .inl ()):=by
 refine KU p.length _ () false (λ i hi=>?_) ?_ n (by omega)
 ·have w2:i64.wrap ((i:Int)+2)=((i+2:Nat):Int):=by rw[bU (by omega) (by omega)];omega
  simp only[qj,dX,dR hi,aj,w2,KW hl hn hi,aW i];cases (List.range p.length).any λk=>decide (i+2<=k)&&UA p i k<;>rfl
 ·simp only[qj,dX,fO,ak]
theorem RX(p:List dJ)(hn:2000<=n):wV n p=some (RS p):=by
 unfold wV RS;by_cases h4:p.length<4
 ·have d1:decide ((p.length:Int)<4)=true:=by simp;omega
  have d2:decide (4<=p.length)=false:=by simp;omega
  rw[d1,d2];rfl
 ·have d1:decide ((p.length:Int)<4)=false:=by simp;omega
  have d2:decide (4<=p.length)=true:=by simp;omega
  by_cases h60:p.length>60
  ·have d3:decide ((p.length:Int)>60)=true:=(by simp;omega);have d4:decide (p.length<=60)=false:=(by simp;omega);rw[d1,d2,d3,d4];rfl
  ·have d3:decide ((p.length:Int)>60)=false:=(by simp;omega);have d4:decide (p.length<=60)=true:=(by simp;omega);have g:bo (gB p) (((0:Nat):Int)+0)=some (jl p 0):=by
    have:=bM (l:=gB p) (i:=0) (by rw[dX];omega);rw[A9]at this;exact this
   have i0:b9 0 (gB p).length=true:=by
    have:=bE (i:=0) (n:=(gB p).length) (by rw[dX];omega);simpa using this
   rw[d1,d2,d3,d4];simp only[ak,ah,Dh (n:=n) (p:=p) (by omega) (by omega),KV (n:=n) (p:=p) (by omega) hn,Bool.true_and];cases (List.range p.length).any (HK p)with
   |true=>rfl
   |false=>
    simp only[ak,dP,KX (n:=n) (p:=p) (by omega) hn];cases (List.range p.length).any λi=>(List.range p.length).any λk=>decide (i+2<=k)&&UA p i k with
    |true=>rfl
    |false=>
     simp only[ak,dP,i0,aj,g,ah,nN];rfl
def DT(p:List dJ)(x:Int):List Int:=((gB p).filter λs=>!tw s&&(decide (min s.lE s.me<=x)&&decide (x<max s.lE s.me))).map (·.pp)
def FO(x0 x1:Int):List Int->List ay
 |a::b::l=>⟨x0,a,x1,b⟩::FO x0 x1 l
 |_=>[]
def m9(p:List dJ):List Int:=B6 (p.map (·.x))
def Yn(p:List dJ):List ay:=(iZ (λ a b=>FO a b (kY mn (DT p a))) (m9 p)).flatten
def zQ(p:List dJ):List ay×Int:=if RS p=true then(if (Yn p).length>200 then([],6)else(Yn p,0))else([],10)
theorem ag3{p:List dJ}(h:RS p=true):4<=p.length/\p.length<=60:=by
 unfold RS at h;simp only[aJ,aT]at h;exact⟨h.1,h.2.1⟩
theorem Ja{p:List dJ}(hl:p.length<=1000)(hn:2000<=n):iter (l7 p) n ((0:Int),([]:List Int))=some (p.map (·.x)):=by
 have:=gm (l:=p) (step:=l7 p) (λ i (s:List Int)=>((i:Int),s)) (λ r s=>s++[r.x]) (λ s=>s) (λ i s=>s.length<=i)
  (λ i hi s hs=>?_) (λ s hs=>by simp[l7]) n (by omega) [] (aQ _)
 ·rw[show ((0:Nat):Int)=0 from rfl]at this;rw[this];have gen:∀(ys:List dJ)(s:List Int),ys.foldl (λ s r=>s++[r.x]) s=s++ys.map (·.x):=by
   intro ys
   induction ys with
   |nil=>intro s;simp
   |cons y ys ih=>intro s;rw[foldl_cons,ih];simp
  congr 1;simpa using gen p []
 ·have ap:bR s.length s.length (sub ([(p[i]).x]:List Int) 0 1).length 1 8=true:=eX (n:=1);simp only[l7,dR hi,aj,bB hi,ah,ap,fG,aG];refine⟨?_,by simp;omega⟩;rw[aR (by omega)];rfl
theorem Jb{p:List dJ}(hl:p.length<=1000)(hn:2000<=n)(es:List Int)(i:Nat)(hi:i<es.length):iter (l8 ((),es) (gB p) (i:Int)) n ((0:Int),([]:List Int))=some (DT p es[i]):=by
 have:=gm (l:=gB p) (step:=l8 ((),es) (gB p) (i:Int)) (λ i (s:List Int)=>((i:Int),s)) (λ r s=>bif !tw r&&(decide (min r.lE r.me<=es[i])&&decide (es[i] <max r.lE r.me))then s++[r.pp]else s) (λ s=>s) (λ i s=>s.length<=i)
  (λ j hj s hs=>?_) (λ s hs=>by simp[l8]) n (by rw[dX];omega) [] (aQ _)
 ·rw[show ((0:Nat):Int)=0 from rfl]at this;rw[this];have gen:∀(ys:List jG)(s:List Int),ys.foldl (λ s r=>bif !tw r&&(decide (min r.lE r.me<=es[i])&&decide (es[i] <max r.lE r.me))then s++[r.pp]else s) s=s++(ys.filter λs=>!tw s&&(decide (min s.lE s.me<=es[i])&&decide (es[i] <max s.lE s.me))).map (·.pp):=by
   intro ys
   induction ys with
   |nil=>intro s;simp
   |cons y ys ih=>
    intro s;rw[foldl_cons,ih,List.filter_cons];cases !tw y&&(decide (min y.lE y.me<=es[i])&&decide (es[i] <max y.lE y.me))<;>simp
  congr 1;exact gen (gB p) []
 ·rw[dX]at hj;have g:bo (gB p) (((0:Nat):Int)+(j:Int))=some (gB p)[j]:=bM (by rw[dX];exact hj);have ap:bR s.length s.length (sub ([((gB p)[j]'(by rw[dX];exact hj)).pp]:List Int) 0 1).length 1 8=true:=eX (n:=1);generalize hr:(gB p)[j]'(by rw[dX];exact hj)=r at*;simp only[l8,dX,dR hj,aj,bE hj,g,ah,nN,bE hi,bM hi,P6,ap,fG,aG,aW j];cases tw r<;>cases decide (min r.lE r.me<=es[i])<;>cases decide (es[i] <max r.lE r.me)<;>refine⟨rfl,?_⟩<;>simp<;>omega
theorem abw(x0 x1:Int):∀l:List Int,(FO x0 x1 l).length<=l.length
 |[]=>by simp[FO]
 |[_]=>by simp[FO]
 |a::b::l=>by have:=abw x0 x1 l;simp only[FO,bF];omega
theorem Jc(es:List Int)(i:Nat)(hi:i+1<es.length)(he:es.length<=10000)(w2 r8:List Int)(hw:w2.length=r8.length)(hr:r8.length<=1000)(ab:List ay)(ho:ab.length<=10000000)(hn:2000<=n):
 iter (jr ((),es) (i:Int) w2 r8) n ((0:Int),ab)=some (ab++FO (es[i]'(by omega)) es[i+1] r8):=by
 have main:∀(m k:Nat)(ab:List ay),k+m=r8.length->ab.length<=10000000+k->∀f,m<f->iter (jr ((),es) (i:Int) w2 r8) f ((k:Int),ab)=some (ab++FO (es[i]'(by omega)) es[i+1] (r8.drop k)):=by
  intro m
  induction m using Nat.strongRecOn with
  |ind m ih=>
   intro k ab hk hko f hf;obtain⟨f,rfl⟩:∃g,f=g+1:=⟨f -1,by omega⟩;have w1:i64.wrap ((k:Int)+1)=((k+1:Nat):Int):=aR (by omega);have w3:i64.wrap ((k:Int)+2)=((k+2:Nat):Int):=(by rw[bU (by omega) (by omega)];omega);have w4:i64.wrap ((i:Int)+1)=((i+1:Nat):Int):=aR (by omega);by_cases h2:k+1<r8.length
   ·have d:decide (((k+1:Nat):Int)<(w2.length:Int))=true:=(by rw[hw];exact dR h2);have ap:bR ab.length ab.length (sub ([(ay.mk (es[i]'(by omega)) (r8[k]'(by omega)) es[i+1] r8[k+1])]:List ay) 0 1).length 1 32=true:=eX (n:=1);have st:jr ((),es) (i:Int) w2 r8 ((k:Int),ab)=some (.inl (((k+2:Nat):Int),ab++[ay.mk (es[i]'(by omega)) (r8[k]'(by omega)) es[i+1] r8[k+1]])):=by
     simp only[jr,w1,w3,w4,d,aj,bE (show i<es.length by omega),bM (show i<es.length by omega),ah,bE (show k<w2.length by omega),bM (show k<r8.length by omega),bE hi,bM hi,bE (show k+1<w2.length by omega),bM h2,ap,fG,aG];rfl
    have dr:r8.drop k=r8[k]::r8[k+1]::r8.drop (k+2):=(by rw[List.drop_eq_getElem_cons (by omega),List.drop_eq_getElem_cons h2]);rw[dx st,ih (m -2) (by omega) (k+2) _ (by omega) (by rw[dH,List.length_singleton];omega) f (by omega),dr];simp[FO]
   ·have d:decide (((k+1:Nat):Int)<(w2.length:Int))=false:=(by rw[hw,dN];omega);have e:FO (es[i]'(by omega)) es[i+1] (r8.drop k)=[]:=by
     have hl:(r8.drop k).length<=1:=by rw[length_drop];omega
     match r8.drop k,hl with
     |[],_=>rfl
     |[_],_=>rfl
     |_::_::_,h=>simp at h
    rw[e,append_nil];refine bJ ?_;simp only[jr,w1,d,ak,aG,aj]
 have:=main r8.length 0 ab (by omega) (by omega) n (by omega);rw[show ((0:Nat):Int)=0 from rfl,List.drop_zero]at this;exact this
theorem amD(p:List dJ):(m9 p).length<=p.length:=by
 have h:=sI (kY mn (p.map (·.x)));rw[eO,length_map]at h;exact h
theorem Yo(p:List dJ)(x:Int):(DT p x).length<=p.length:=by
 unfold DT;rw[length_map,<- dX p];exact length_filter_le _ _
theorem KY{α:Type}(b:Nat):∀l:List (List α),(∀ x∈l,x.length<=b)->l.flatten.length<=l.length*b
 |[],_=>by simp
 |x::l,h=>by
  have h1:=KY b l λy hy=>h y (dS _ hy);have h2:=h x mem_cons_self;rw[List.flatten_cons,dH,bF,Nat.add_mul];omega
theorem Jd{p:List dJ}(hl:p.length<=1000)(hn:2000<=n):
 iter (l9 n ((),m9 p) (gB p)) n ((0:Int),([]:List ay))=some (Yn p):=by
 have hx:=amD p;obtain⟨p1,p2⟩:=sZ (λ a b=>FO a b (kY mn (DT p a))) (m9 p)
 let C:=iZ (λ a b=>FO a b (kY mn (DT p a))) (m9 p)
 have hC:C.length=(m9 p).length -1:=p1;have cl:∀c∈C,c.length<=1000:=by
  intro c hc;obtain⟨i,hi,rfl⟩:=mem_iff_getElem.1 hc;have:=p2 i (by omega) hi;show(C[i]).length<=1000;rw[show C[i]=_ from this];have h1:=abw (m9 p)[i] (m9 p)[i+1] (kY mn (DT p (m9 p)[i]));rw[eO]at h1;have h2:=Yo p (m9 p)[i];omega
 have bl:∀i,((C.take i).flatten).length<=1000*1000:=by
  intro i;have h1:=KY 1000 (C.take i) λx hx=>cl x (List.mem_of_mem_take hx);have h2:(C.take i).length<=1000:=by rw[length_take];omega
  exact Nat.le_trans h1 (Nat.mul_le_mul_right _ h2)
 have main:=nu (step:=l9 n ((),m9 p) (gB p)) (λ i=>((i:Int),(C.take i).flatten)) C.length (Yn p) (λ i hi=>?_) ?_ n (by omega)
 ·simpa using main
 ·have hi2:i+1<(m9 p).length:=by omega
  have hw:i64.wrap ((((m9 p).length:Nat):Int) -1)=(C.length:Int):=by rw[bU (by omega) (by omega)];omega
  have bi:=bl i;have cr:=Yo p (m9 p)[i];have e:C.take (i+1)=C.take i++[FO (m9 p)[i] (m9 p)[i+1] (kY mn (DT p (m9 p)[i]))]:=by
   rw[j4 hi];congr 2;exact p2 i hi2 hi
  simp only[l9,hw,dR hi,aj,length_nil,aG,Jb hl hn (m9 p) i (by omega),ah];rw[pW (by omega) (by omega)];simp only[ah];rw[Jc (m9 p) i hi2 (by omega) (DT p (m9 p)[i]) (kY mn (DT p (m9 p)[i])) (by rw[eO]) (by rw[eO];omega) _ (by omega) hn];simp only[ah,aG,aj,e,List.flatten_append,List.flatten_cons,List.flatten_nil,append_nil,aW i]
 ·have hw:i64.wrap ((((m9 p).length:Nat):Int) -1)=(((m9 p).length:Nat):Int) -1:=bU (by omega) (by omega);have d:decide ((C.length:Int)<(((m9 p).length:Nat):Int) -1)=false:=by rw[dN];omega
  simp only[l9,hw,d,ak,aG,aj,List.take_length];rfl
theorem Qe(p:List dJ)(hn:2000<=n):uN n p=some (zQ p):=by
 unfold uN zQ;rw[RX p hn];simp only[ah];cases hr:RS p with
 |false=>rfl
 |true=>
  have⟨_,hl⟩:=ag3 hr;simp only[Bool.not_true,ak,length_nil,aG,aj,Ja (n:=n) (p:=p) (by omega) hn,ah,if_true];rw[pW (by rw[length_map];omega) (by rw[length_map];omega)];simp only[ah,eO,aG,aj];rw[uV (by rw[eO,length_map];omega) (by rw[eO,length_map];omega)];simp only[ah,Dh (n:=n) (p:=p) (by omega) (by omega)];have hE:gQ (kY mn (p.map (·.x)))=m9 p:=rfl;rw[hE,Jd (by omega) hn];simp only[ah,cZ,aG,aj];by_cases qr:(Yn p).length>200
  ·have:decide ((((Yn p).length:Nat):Int)>200)=true:=(by simp;omega);rw[this,aP qr];rfl
  ·have:decide ((((Yn p).length:Nat):Int)>200)=false:=(by simp;omega);rw[this,aO qr];rfl
theorem aeS(p:List dJ):(zQ p).1.length<=200:=by
 unfold zQ;split
 ·split
  ·simp
  ·simp;omega
 ·simp
def aor(a b:ay):Int:=bif(!d5 a || !d5 b)then -1 else max (max 0 (i64.wrap ((max a.x0 b.x0) -(min a.x1 b.x1)))) (i64.wrap ((max a.y0 b.y0) -(min a.y1 b.y1)))
theorem alq(a b:ay):Lo a b=some (aor a b):=by
 unfold Lo aor;rw[jE,jE];simp only[ah];cases d5 a<;>cases d5 b<;>rfl
def Tr:gK:=gK.mk 0 0 [] []
def nE(land:List gK)(id:Int):gK×Bool:=match land.find? λt=>t.id==id with
 |some t=>(t,true)
 |none=>(Tr,false)
theorem Yp{α:Type}(p:α->Bool)(l:List α):(∃ (i:Nat) (h:i<l.length),pq p l=some i/\l.find? p=some l[i])\/(pq p l=none/\l.find? p=none):=by
 rcases GY p l with ⟨i,hi,h1,h2,h3⟩ |⟨h1,h2⟩
 ·refine .inl ⟨i,hi,h1,?_⟩;rw[List.find?_eq_some_iff_getElem];exact⟨h2,i,hi,rfl,λj hj=>by simpa using h3 j hj⟩
 ·refine .inr ⟨h1,?_⟩;rw[List.find?_eq_none];intro x hx;rw[h2 x hx];simp
def aos(t:bZ)(name:ByteArray):Int:=match t.rows.find? λe=>ByteArray.toList e.name==ByteArray.toList name with
 |some e=>e.n
 |none=>t.rm
theorem Yq{α:Type}(p:α->Bool)(l:List α):(∃ (i:Nat) (h:i<l.length),Dz p l=(i:Int)/\l.find? p=some l[i])\/(Dz p l= -1/\l.find? p=none):=by
 rcases Yp p l with ⟨i,hi,h1,h2⟩ |⟨h1,h2⟩
 ·exact .inl ⟨i,hi,by simp[Dz,h1],h2⟩
 ·exact .inr ⟨by simp[Dz,h1],h2⟩
def als:List ByteArray:=[⟨#[104,111,109,101]⟩,⟨#[115,104,111,112]⟩,⟨#[119,111,114,107]⟩,⟨#[112,97,114,107]⟩,⟨#[112,108,97,110,116]⟩,⟨#[104,97,108,108]⟩]
def nameOf(use:Int):Option ByteArray:=bo als use
theorem Qf{V O:Type}{step:V->Option (V⊕O)}(R:Nat->V->Prop)(N:Nat)(Q:O->Prop)(h:∀i v,i<N->R i v->∃v',step v=some (.inl v')/\R (i+1) v')(hN:∀v,R N v->∃o,step v=some (.inr o)/\Q o):
 ∀n,N<n->∀v,R 0 v->∃o,iter step n v=some o/\Q o:=by
 have main:∀k i n v,i+k=N->k<n->R i v->∃o,iter step n v=some o/\Q o:=by
  intro k
  induction k with
  |zero=>
   intro i n v hi hn hR;obtain⟨m,rfl⟩:∃m,n=m+1:=⟨n -1,by omega⟩;have:i=N:=(by omega);subst this;have⟨o,h1,h2⟩:=hN v hR;exact⟨o,bJ h1,h2⟩
  |succ k ih=>
   intro i n v hi hn hR;obtain⟨m,rfl⟩:∃m,n=m+1:=⟨n -1,by omega⟩;obtain⟨v',h1,h2⟩:=h i v (by omega) hR;obtain⟨o,h3,h4⟩:=ih (i+1) m v' (by omega) (by omega) h2;exact⟨o,by rw[dx h1,h3],h4⟩
 intro n hn v hR;exact main N 0 n v (by omega) hn hR
def DU(z:dY):List ay:=if (zQ z.corners).2=0 then(zQ z.corners).1 else []
theorem ag4(z:dY):(DU z).length<=200:=by
 unfold DU;split
 ·exact aeS _
 ·simp
theorem UC(z:dY)(hn:2000<=n):zF n z=some (DU z):=by
 unfold zF DU;rw[Qe _ hn];simp only[ah,cZ,aG,aj];by_cases h:(zQ z.corners).2=0
 ·have:((zQ z.corners).2 !=0)=false:=by simp[h]
  rw[this,aP h];rfl
 ·have:((zQ z.corners).2 !=0)=true:=by simp[h]
  rw[this,aO h];rfl
def IJ(a b:ay):ay:=⟨max a.x0 b.x0,max a.y0 b.y0,min a.x1 b.x1,min a.y1 b.y1⟩
theorem Qg(a:ay):Ag a=some (bif d5 a then(a,true)else(⟨0,0,0,0⟩,false)):=by
 unfold Ag;rw[jE];simp only[ah,P6]
theorem Bb(a b:ay):tQ a b=some (bif d5 a&&(d5 b&&d5 (IJ a b))then(IJ a b,true)else(⟨0,0,0,0⟩,false)):=by
 unfold tQ;rw[jE,jE];simp only[ah,P6];rw[show ay.mk (max a.x0 b.x0) (max a.y0 b.y0) (min a.x1 b.x1) (min a.y1 b.y1)=IJ a b from rfl,Qg];simp only[ah];generalize d5 (IJ a b)=c;cases d5 a<;>cases d5 b<;>cases c<;>rfl
def H0(r:ay):Int:=i64.wrap (i64.wrap (r.x1 -r.x0)*i64.wrap (r.y1 -r.y0))
theorem FP{r:ay}(h:d5 r=true):AX r=some (H0 r):=by
 unfold AX;rw[Qg,h];rfl
def Yr(x:ay)(n:Int)(y:ay):Int:=bif d5 x&&(d5 y&&d5 (IJ x y))then i64.wrap (n+H0 (IJ x y))else n
def H9(a b:List ay):Int:=a.foldl (λ n x=>b.foldl (Yr x) n) 0
theorem amE{α β:Type}(c:Bool)(a:α)(u v:β):(bif c then(a,u)else(a,v)).1=a:=by cases c<;>rfl
theorem KZ(b:List ay)(x:ay)(hb:b.length<=1000)(hn:2000<=n)(m u v:Int):∃o,iter (ql n b x) n (m,(0:Int),u,v)=some o/\o.1=b.foldl (Yr x) m:=by
 refine Qf (λ i (w:Int×Int×Int×Int)=>w.2.1=(i:Int)/\w.1=(b.take i).foldl (Yr x) m) b.length (λ (o:Int×Int×Int)=>o.1=b.foldl (Yr x) m) (λ i w hi hR=>?_) (λ w hR=>?_) n (by omega) _ ⟨rfl,rfl⟩
 ·obtain⟨w1,w2,w3,w4⟩:=w;obtain⟨h1,h2⟩:=hR;simp only at h1 h2;subst h1;have e:(b.take (i+1)).foldl (Yr x) m=Yr x w1 b[i]:=by rw[j4 hi,List.foldl_append,<- h2];rfl
  simp only[ql,dR hi,aj,bB hi,ah,Bb];have e0:Yr x w1 b[i]=bif d5 x&&(d5 b[i]&&d5 (IJ x b[i]))then i64.wrap (w1+H0 (IJ x b[i]))else w1:=rfl;rw[e0]at e;cases hc:d5 x&&(d5 b[i]&&d5 (IJ x b[i]))with
  |false=>
   rw[hc]at e;simp only[ak,Bool.not_false,aj,ah];exact⟨_,rfl,aR (by omega),e.symm⟩
  |true=>
   rw[hc]at e;have hcc:d5 (IJ x b[i])=true:=by
    revert hc;generalize d5 (IJ x b[i])=c;cases c
    ·cases d5 x<;>cases d5 b[i]<;>simp
    ·simp
   simp only[aj,Bool.not_true,ak,FP hcc,ah,kP];rw[show ∀u v:Int,sub [u,v] 0 2=[u,v]from λ_ _=>rfl,Ye _ _ (by omega)];simp only[ah,P6];simp only[show ∀u v:Int,bk [u,v].length 2=true from λ_ _=>rfl,aj,ah];refine⟨_,rfl,aW i,?_⟩;rw[e];exact amE _ _ _ _
 ·obtain⟨w1,w2,w3,w4⟩:=w;obtain⟨h1,h2⟩:=hR;simp only at h1 h2;subst h1;simp only[ql,fO,ak];exact⟨_,rfl,by rw[h2,List.take_length]⟩
theorem RY(a b:List ay)(ha:a.length<=1000)(hb:b.length<=1000)(hn:2000<=n):∃q,wW n a b=some (H9 a b,q):=by
 unfold wW;obtain⟨o,h1,h2⟩:=Qf (step:=qm n a b) (λ i (w:Int×Int×Int×Int)=>w.2.1=(i:Int)/\w.1=(a.take i).foldl (λ n x=>b.foldl (Yr x) n) 0) a.length (λ (o:Int×Int×Int)=>o.1=H9 a b) (λ i w hi hR=>by
  obtain⟨w1,w2,w3,w4⟩:=w;obtain⟨h1,h2⟩:=hR;simp only at h1 h2;subst h1;have⟨o,g1,g2⟩:=KZ (n:=n) b a[i] hb hn w1 w3 w4;obtain⟨o1,o2,o3⟩:=o;simp only[qm,dR hi,aj,bB hi,ah,g1];refine⟨_,rfl,aR (by omega),?_⟩;simp only at g2;rw[j4 hi,List.foldl_append,<- h2,g2];rfl) (λ w hR=>by
  obtain⟨w1,w2,w3,w4⟩:=w;obtain⟨h1,h2⟩:=hR;simp only at h1 h2;subst h1;simp only[qm,fO,ak];exact⟨_,rfl,by rw[h2,List.take_length];rfl⟩) n (by omega) (0,0,1048576,0) ⟨rfl,rfl⟩
 obtain⟨o1,o2,o3⟩:=o;simp only at h2;subst h2;exact⟨_,by rw[h1];rfl⟩
def zR(zs:List dY)(area:List ay):List Int:=bif cI area then zs.map λz=>H9 area (DU z)else []
theorem RZ(p:cO)(a:List ay)(hz:p.zones.length<=100)(ha:a.length<=900)(hn:2000<=n):wX n p a=some (zR p.zones a):=by
 unfold wX zR;rw[mH (by omega) (by omega) (by omega)];simp only[ah];cases cI a with
 |false=>rfl
 |true=>
  have:=gm (l:=p.zones) (step:=qo n p a) (λ i (s:List Int)=>((i:Int),s)) (λ z s=>s++[H9 a (DU z)]) (λ s=>s) (λ i s=>s.length<=i)
   (λ i hi s hs=>?_) (λ s hs=>by simp[qo]) n (by omega) [] (aQ _)
  ·rw[show ((0:Nat):Int)=0 from rfl]at this;simp only[Bool.not_true,ak,length_nil,aG,aj,this,ah,cZ];congr 1;have gen:∀(ys:List dY) (s:List Int),ys.foldl (λ s z=>s++[H9 a (DU z)]) s=s++ys.map λz=>H9 a (DU z):=by
    intro ys
    induction ys with
    |nil=>intro s;simp
    |cons y ys ih=>intro s;rw[foldl_cons,ih];simp
   exact gen p.zones []
  ·have cl:=ag4 p.zones[i];obtain⟨q,hq⟩:=RY (n:=n) a (DU p.zones[i]) (by omega) (by omega) hn;have ap:bR s.length s.length (sub ([H9 a (DU p.zones[i])]:List Int) 0 1).length 1 8=true:=eX (n:=1);simp only[qo,dR hi,aj,bB hi,ah,UC _ hn,cZ,aG,hq,ap,fG];refine⟨?_,by simp;omega⟩;rw[aR (by omega)];rfl
theorem Ub(zs:List dY)(a:List ay):(zR zs a).length<=zs.length:=by
 unfold zR;cases cI a<;>simp
def zf(zs:List dY)(l:List Int)(m:Nat):Int:=(List.range m).foldl (λ (b:Int) i=>if (!((zs.getD i ⟨⟨#[]⟩,false,[]⟩).overlay)&&(decide (l.getD i 0>0)&&(decide (b<0) || decide (l.getD i 0>l.getD b.toNat 0))))=true then(i:Int)else b) (-1)
def Ia(zs:List dY)(l:List Int)(i:Nat):Bool:=decide ((i:Int)=zf zs l l.length) || ((zs.getD i ⟨⟨#[]⟩,false,[]⟩).overlay&&decide (l.getD i 0>0))
def CN(zs:List dY)(area:List ay):List ByteArray:=((List.range (zR zs area).length).filter (Ia zs (zR zs area))).map λi=>(zs.getD i ⟨⟨#[]⟩,false,[]⟩).name
theorem Uc(zs:List dY)(l:List Int):∀m,zf zs l m= -1\/∃k:Nat,k<m/\zf zs l m=(k:Int)
 | 0=> .inl rfl
 |m+1=>by
  have ih:=Uc zs l m;unfold zf;rw[List.range_succ,List.foldl_append];simp only[foldl_cons,List.foldl_nil];split
  ·exact .inr ⟨m,by omega,rfl⟩
  ·rcases ih with h |⟨k,h1,h2⟩
   ·exact .inl h
   ·exact .inr ⟨k,by omega,h2⟩
theorem K3{α:Type}{l:List α}{i:Nat}(d:α)(h:i<l.length):l.getD i d=l[i]:=by simp[h]
theorem R3(p:cO)(l:List Int)(hl:l.length<=p.zones.length)(hz:p.zones.length<=100)(hn:2000<=n):iter (qp p l) n (((-1):Int),(0:Int))=some (zf p.zones l l.length):=by
 have main:=nu (step:=qp p l) (λ i=>(zf p.zones l i,(i:Int))) l.length (zf p.zones l l.length) (λ i hi=>?_) (by simp[qp]) n (by omega)
 ·exact main
 ·have hz':i<p.zones.length:=by omega
  have e:zf p.zones l (i+1)=if (!(p.zones[i]).overlay&&(decide (l[i]>0)&&(decide (zf p.zones l i<0) || decide (l[i]>l.getD (zf p.zones l i).toNat 0))))=true then(i:Int)else zf p.zones l i:=by
   conv=>lhs;unfold zf
   rw[List.range_succ,List.foldl_append];simp only[foldl_cons,List.foldl_nil,K3 _ hz',K3 _ hi];rfl
  rw[e];rcases Uc p.zones l i with h |⟨k,h1,h2⟩
  ·rw[h];have d:decide ((-1:Int)<0)=true:=rfl;simp only[qp,dR hi,aj,bE hi,bM hi,ah,bB hz',d,P6,Bool.true_or,Bool.and_true,aW i];cases (p.zones[i]).overlay<;>cases decide (l[i]>0)<;>rfl
  ·rw[h2];have d:decide ((k:Int)<0)=false:=(by simp);have hk:k<l.length:=(by omega);simp only[qp,dR hi,aj,bE hi,bM hi,ah,bB hz',d,P6,Bool.false_or,ak,bE hk,bM hk,Int.toNat_natCast,K3 _ hk,aW i];cases (p.zones[i]).overlay<;>cases decide (l[i]>0)<;>cases decide (l[i]>l[k])<;>rfl
theorem acR(p:cO)(a:List ay)(hz:p.zones.length<=100)(ha:a.length<=900)(hn:2000<=n):FD n p a=some (CN p.zones a):=by
 unfold FD;have sl:=Ub p.zones a;rw[RZ p a hz ha hn];simp only[ah];rw[R3 p _ sl hz hn];simp only[ah,length_nil,aG,aj];unfold CN;generalize hL:zR p.zones a=l at*
 have:=gm (l:=List.range l.length) (step:=zG p l (zf p.zones l l.length)) (λ i (s:List ByteArray)=>((i:Int),s)) (λ i s=>bif Ia p.zones l i then s++[(p.zones.getD i ⟨⟨#[]⟩,false,[]⟩).name]else s) (λ s=>s) (λ i s=>s.length<=i)
  (λ i hi s hs=>?_) (λ s hs=>by rw[List.length_range];simp[zG]) n (by rw[List.length_range];omega) [] (aQ _)
 ·rw[show ((0:Nat):Int)=0 from rfl]at this;simp only[this,ah,cZ,aG,aj];congr 1;have gen:∀(ys:List Nat)(s:List ByteArray),ys.foldl (λ s i=>bif Ia p.zones l i then s++[(p.zones.getD i ⟨⟨#[]⟩,false,[]⟩).name]else s) s=s++(ys.filter (Ia p.zones l)).map λi=>(p.zones.getD i ⟨⟨#[]⟩,false,[]⟩).name:=by
   intro ys
   induction ys with
   |nil=>intro s;simp
   |cons y ys ih=>
    intro s;rw[foldl_cons,ih,List.filter_cons];cases Ia p.zones l y<;>simp
  exact gen (List.range l.length) []
 ·rw[List.length_range]at hi;have hz':i<p.zones.length:=by omega
  rw[List.getElem_range];have ap:bR s.length s.length (sub ([(p.zones[i]).name]:List ByteArray) 0 1).length 1 16=true:=eX (n:=1);have hb:((i:Int)==zf p.zones l l.length)=decide ((i:Int)=zf p.zones l l.length):=by rw[kE];simp
  simp only[zG,dR hi,aj,bE hi,bM hi,ah,bB hz',hb,P6,ap,fG,aG,Ia,K3 _ hz',K3 _ hi,aW i];cases decide ((i:Int)=zf p.zones l l.length)<;>cases (p.zones[i]).overlay<;>cases decide (l[i]>0)<;>refine⟨rfl,?_⟩<;>simp<;>omega
theorem amF(zs:List dY)(a:List ay):(CN zs a).length<=zs.length:=by
 unfold CN;rw[length_map];have h1:=length_filter_le (Ia zs (zR zs a)) (List.range (zR zs a).length);rw[List.length_range]at h1;have:=Ub zs a;omega
def d6(a b:ByteArray):Bool:=ByteArray.toList a==ByteArray.toList b
theorem vM{l:List ByteArray}{a:ByteArray}(hl:l.length<1099511627776)(hn:l.length<n):fM n l a=some (l.any (d6 a)):=by
 unfold fM;have e:sw n l a=V1 n (λ x=>ByteArray.toList a==ByteArray.toList x) l:=by kernel_rfl
 rw[e,TS hl hn,ah,zo];rfl
theorem qJ{l:List ByteArray}{φ:(ByteArray×Unit)->Option Bool}(p:ByteArray->Bool)(h:∀x∈l,φ (x,())=some (p x))(hl:l.length<1099511627776)(hn:l.length<n):fU n l φ=some (l.any p):=by
 unfold fU;have e:qU n l φ=xH n l φ:=by kernel_rfl
 rw[e,iH p h hl hn,ah,zo]
def VJ(r:aM)(zs:List ByteArray):Bool:=(decide (r.zones=[]) || r.zones.any λz=>zs.any (d6 z))&&!(r.except.any λz=>zs.any (d6 z))
theorem R4(r:aM)(zs:List ByteArray)(h1:r.zones.length<=100)(h2:r.except.length<=100)(h3:zs.length<=100)(hn:2000<=n):rJ n r zs=some (VJ r zs):=by
 have hf:∀x:ByteArray,kC n x zs=some (zs.any (d6 x)):=λx=>by unfold kC;rw[vM (by omega) (by omega)];rfl
 unfold rJ VJ;rw[qJ (λ z=>zs.any (d6 z)) (λ x _=>hf x) (by omega) (by omega),qJ (λ z=>zs.any (d6 z)) (λ x _=>hf x) (by omega) (by omega)];simp only[ah,P6];have e:((r.zones.length:Int)==0)=decide (r.zones=[]):=by
  rw[kE,beq_iff_eq,aT];constructor
  ·intro h;exact List.length_eq_zero_iff.1 (by omega)
  ·intro h;rw[h];rfl
 rw[e];cases decide (r.zones=[])<;>cases (r.zones.any λz=>zs.any (d6 z))<;>cases (r.except.any λz=>zs.any (d6 z))<;>rfl
def jm(zs:List ByteArray)(day:Int)(r:aM):Bool:=decide (r.from_<=day)&&((r.j0==0 || decide (day<r.j0))&&VJ r zs)
def R5(rules:List aM)(zs:List ByteArray)(day:Int):List Nat:=(List.range rules.length).filter λi=>(rules[i]?).any (jm zs day)
abbrev Ib(r:aM):Prop:=r.zones.length<=100/\r.except.length<=100
theorem UD(p:cO)(zs:List ByteArray)(day:Int)(hr:∀r∈p.rules,Ib r)(hl:p.rules.length<=100)(h3:zs.length<=100)(hn:2000<=n):uO n p zs day=some ((R5 p.rules zs day).map λ(i:Nat)=>(i:Int)):=by
 unfold uO R5
 have:=gm (l:=List.range p.rules.length) (step:=sD n p zs day) (λ i (s:List Int)=>((i:Int),s)) (λ i s=>bif(p.rules[i]?).any (jm zs day)then s++[(i:Int)]else s) (λ s=>s) (λ i s=>s.length<=i)
  (λ i hi s hs=>?_) (λ s hs=>by rw[List.length_range];simp[sD]) n (by rw[List.length_range];omega) [] (aQ _)
 ·rw[show ((0:Nat):Int)=0 from rfl]at this;simp only[length_nil,aG,aj,this,ah,cZ];congr 1;have gen:∀(ys:List Nat)(s:List Int),ys.foldl (λ s (i:Nat)=>bif(p.rules[i]?).any (jm zs day)then s++[(i:Int)]else s) s=s++(ys.filter λi=>(p.rules[i]?).any (jm zs day)).map λ(i:Nat)=>(i:Int):=by
   intro ys
   induction ys with
   |nil=>intro s;simp
   |cons y ys ih=>
    intro s;rw[foldl_cons,ih,List.filter_cons];cases (p.rules[y]?).any (jm zs day)<;>simp
  exact gen (List.range p.rules.length) []
 ·rw[List.length_range]at hi;rw[List.getElem_range];obtain⟨o1,o2⟩:=hr _ (getElem_mem hi);have ap:bR s.length s.length (sub ([(i:Int)]:List Int) 0 1).length 1 8=true:=eX (n:=1);have eg:(p.rules[i]?).any (jm zs day)=jm zs day p.rules[i]:=by rw[dI hi];rfl
  rw[eg];simp only[sD,dR hi,aj,bB hi,ah,R4 _ zs o1 o2 h3 hn,P6,ap,fG,aG,jm,aW i];cases decide ((p.rules[i]).from_<=day)<;>cases (p.rules[i]).j0==0<;>cases decide (day<(p.rules[i]).j0)<;>cases VJ p.rules[i] zs<;>refine⟨rfl,?_⟩<;>simp<;>omega
def Yt(p:dU):Bool:=decide (0<=p.side/\p.side<=3)&&(decide (0<=p.base/\p.base<=4096)&&(decide (0<=p.num/\p.num<=4096)&&decide (1<=p.den/\p.den<=4096)))
theorem alu(p:dU):Yt p=true↔(0<=p.side/\p.side<=3)/\(0<=p.base/\p.base<=4096)/\(0<=p.num/\p.num<=4096)/\(1<=p.den/\p.den<=4096):=by simp only[Yt,aJ,aT]
theorem UE(a b c:Int):ow a b c=some (decide (b<=a/\a<=c)):=by
 unfold ow;by_cases h1:b<=a
 ·have d:decide (b<=a)=true:=by simpa using h1
  rw[d,aj];congr 1;rw[kE];simp[h1]
 ·have d:decide (b<=a)=false:=by simpa using h1
  rw[d,ak];congr 1;rw[kE];simp[h1]
theorem Yu(p:dU):CY p=some (Yt p):=by
 unfold CY Yt;simp only[UE,ah,P6];generalize decide (0<=p.side/\p.side<=3)=a;generalize decide (0<=p.base/\p.base<=4096)=b;generalize decide (0<=p.num/\p.num<=4096)=c;cases a<;>cases b<;>cases c<;>rfl
theorem DW{l:List dU}{φ:(dU×Unit)->Option Bool}(p:dU->Bool)(h:∀x∈l,φ (x,())=some (p x))(hl:l.length<1099511627776)(hn:l.length<n):kV n l φ=some (l.any p):=by
 unfold kV;have e:sV n l φ=xH n l φ:=by kernel_rfl
 rw[e,iH p h hl hn,ah,zo]
def Ic(b:ay)(l:List dU):Bool:=d5 b&&!(l.any λp=>!Yt p)
theorem Yv(b:ay)(l:List dU)(hl:l.length<=1000)(hn:2000<=n):CZ n b l=some (Ic b l):=by
 unfold CZ Ic;rw[jE,DW (λ p=>!Yt p) (λ p _=>by show uP p=_;unfold uP;rw[Yu];rfl) (by omega) (by omega)];simp only[ah,P6];cases d5 b<;>rfl
theorem ag5{a n:Int}(hn:0<n):(if Int.tmod a n<0 then Int.tdiv a n -1 else Int.tdiv a n)=a/n:=by
 have h1:=Int.mul_ediv_add_emod a n;have h2:=Int.emod_nonneg a (by omega:n≠0);have h3:=Int.emod_lt_of_pos a hn;rcases Int.le_total 0 a with h |h
 ·have e1:Int.tmod a n=a%n:=Int.tmod_eq_emod_of_nonneg h;have e2:Int.tdiv a n=a/n:=Int.tdiv_eq_ediv_of_nonneg h;rw[e1,e2,aO (by omega)]
 ·obtain⟨b,rfl⟩:∃b,a= -b:=⟨-a,by omega⟩;have hb:0<=b:=by omega
  have e1:Int.tmod (-b) n= -(b%n):=by rw[Int.neg_tmod,Int.tmod_eq_emod_of_nonneg hb]
  have e2:Int.tdiv (-b) n= -(b/n):=by rw[Int.neg_tdiv,Int.tdiv_eq_ediv_of_nonneg hb]
  have g1:=Int.mul_ediv_add_emod b n;have g2:=Int.emod_nonneg b (by omega:n≠0);have g3:=Int.emod_lt_of_pos b hn;rw[e1,e2];by_cases hm:b%n=0
  ·rw[aO (by omega)];have:(-b)/n= -(b/n):=by
    refine(Int.ediv_eq_iff_of_pos hn).2 ?_;constructor
    ·rw[Int.neg_mul,Int.mul_comm (b/n)];omega
    ·rw[Int.neg_mul,Int.mul_comm (b/n)];omega
   omega
  ·rw[aP (by omega)];have:(-b)/n= -(b/n) -1:=by
    refine(Int.ediv_eq_iff_of_pos hn).2 ?_;constructor
    ·rw[Int.sub_mul,Int.neg_mul,Int.mul_comm (b/n)];omega
    ·rw[Int.sub_mul,Int.neg_mul,Int.mul_comm (b/n)];omega
   omega
theorem Qh{a n:Int}(hn:0<n)(ha: -4611686018427387904<=a/\a<=4611686018427387904):uQ a n=some (a/n):=by
 have nz:(n !=0)=true:=by simp;omega
 have hb: -4611686018427387904<=a/n/\a/n<=4611686018427387904:=by
  constructor
  ·rw[Int.le_ediv_iff_mul_le hn];have: -4611686018427387904*n<= -4611686018427387904:=(by omega);omega
  ·rcases Int.le_total 0 a with h |h
   ·have:=Int.ediv_le_self n h;omega
   ·have:a/n<=0:=by
     have:=(Int.ediv_lt_iff_lt_mul (a:=a) (b:=1) hn).2 (by omega);omega
    omega
 have hf:=ag5 (a:=a) hn;have ht: -4611686018427387904<=Int.tdiv a n/\Int.tdiv a n<=4611686018427387905:=by split at hf<;>omega
 unfold uQ;simp only[nz,aj];rw[bU (x:=Int.tdiv a n),bU (x:=Int.tdiv a n -1),<- hf];by_cases h:Int.tmod a n<0
 ·have d:decide (Int.tmod a n<0)=true:=by simpa using h
  rw[d,aP h];rfl
 ·have d:decide (Int.tmod a n<0)=false:=by simpa using h
  rw[d,aO h];rfl
def Yw(b:ay)(side x y:Int):Int:=if side=0 then x -b.x0 else if side=1 then b.x1 -1 -x else if side=2 then y -b.y0 else b.y1 -1 -y
def aot(b:ay)(p:dU)(x y:Int):Int:=p.base+p.num*Yw b p.side x y/p.den
def Z4(b:ay)(l:List dU)(x y:Int):Int:=l.foldl (λ h p=>min h (aot b p x y)) 4096
abbrev InG(x y:Int):Prop:=(0<=x/\x<1048576)/\(0<=y/\y<1048576)
theorem aeU{b:ay}(hb:d5 b=true){x y:Int}(h:InG x y)(side:Int): -1048576<=Yw b side x y/\Yw b side x y<=1048576:=by
 simp only[d5,aJ,aT]at hb;obtain⟨h1,h2⟩:=h;unfold Yw;split
 ·omega
 ·split
  ·omega
  ·split<;>omega
theorem ajB{a d:Int}(ha:0<=a/\a<=4096)(hd: -1048576<=d/\d<=1048576): -4294967296<=a*d/\a*d<=4294967296:=by
 have h1:a*d<=a*1048576:=Int.mul_le_mul_of_nonneg_left hd.2 ha.1;have h2:a*(-1048576)<=a*d:=Int.mul_le_mul_of_nonneg_left hd.1 ha.1;omega
theorem ajC{a n:Int}(hn:0<n)(ha: -4294967296<=a/\a<=4294967296): -4294967296<=a/n/\a/n<=4294967296:=by
 constructor
 ·rw[Int.le_ediv_iff_mul_le hn];omega
 ·rcases Int.le_total 0 a with h |h
  ·have:=Int.ediv_le_self n h;omega
  ·have:=(Int.ediv_lt_iff_lt_mul (a:=a) (b:=1) hn).2 (by omega);omega
theorem acS{b:ay}{l:List dU}{x y:Int}(hb:d5 b=true)(hp:∀p∈l,Yt p=true)(h:InG x y)(hl:l.length<=1000)(hn:2000<=n):L6 n b l x y=some (Z4 b l x y):=by
 unfold L6 yQ;have hr:=hb;simp only[d5,aJ,aT]at hr;obtain⟨h1,h2⟩:=h;rw[bU (x:=x -b.x0),bU (x:=b.x1 -1),bU (x:=b.x1 -1 -x),bU (x:=y -b.y0),bU (x:=b.y1 -1),bU (x:=b.y1 -1 -y)];simp only[ah];have:=nH (l:=l) (step:=zK b l x y ⟨x -b.x0,b.x1 -1 -x,y -b.y0,b.y1 -1 -y⟩) (λ i (s:Int)=>(s,(i:Int))) (λ p s=>min s (aot b p x y)) (λ s=>s) (λ i hi s=>?_) (λ s=>by simp[zK]) n (by omega) 4096
 ·rw[show ((0:Nat):Int)=0 from rfl]at this;rw[this];rfl
 ·obtain⟨s1,s2,s3,s4⟩:=(alu _).1 (hp _ (getElem_mem hi));have ib:b9 (l[i]).side 4=true:=by simp[b9];omega
  have g:bo ([x -b.x0,b.x1 -1 -x,y -b.y0,b.y1 -1 -y]:List Int) (l[i]).side=some (Yw b (l[i]).side x y):=by
   have hs:(l[i]).side=0\/(l[i]).side=1\/(l[i]).side=2\/(l[i]).side=3:=(by omega);rcases hs with e |e |e |e<;>rw[e]<;>simp[bo,Yw]
  have db:=aeU hb ⟨h1,h2⟩ (l[i]).side;have mb:=ajB s3 db;have dv:=ajC (n:=(l[i]).den) (by omega) mb;simp only[zK,dR hi,aj,bB hi,ah,ib,g];rw[bU (x:=(l[i]).num*Yw b (l[i]).side x y),Qh (by omega) (by omega)];simp only[ah];rw[bU (x:=(l[i]).base+_),aR (by omega)];rfl
theorem aeV(b:ay)(l:List dU):Ic b l=true↔d5 b=true/\∀p∈l,Yt p=true:=by
 unfold Ic;rw[aJ,Bool.not_eq_true',List.any_eq_false];simp
end Go.Proofs
