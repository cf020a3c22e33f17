import Derived.Test.YthblhgapkimgcaaGreatTD1
open Go.IntKind (i64)
open List (length_take mem_map all_eq_true getElem_mem length_map mem_iff_getElem append_nil length_drop length_nil foldl_cons take_of_length_le mem_filter any_eq_true length_singleton pairwise_cons length_filter_le map_append pairwise_append getElem_drop)
namespace Go.Proofs
open Go.Gb Go.RowKit
variable {n:Nat}
theorem kE(a b:Int):cmp_Compare_int a b=some (if a<b then -1 else if b<a then 1 else 0):=by
 by_cases h1:a<b
 ·simp[cmp_Compare_int,cmp_isNaN_int,h1]
 ·by_cases h2:b<a
  ·simp[cmp_Compare_int,cmp_isNaN_int,h1,h2]
  ·simp[cmp_Compare_int,cmp_isNaN_int,h1,h2]
theorem o7{l:List Int}(hl:l.length<1099511627776)(_:l.length<n):oV n l=some (j6 oc l):=by
 show Kx l=_;unfold Kx;rw[Nat.ble_eq_true_of_le (show l.length<=1099511627775 by omega),aj]
theorem uq{l:List Int}(hl:l.length<1099511627776)(hn:l.length<n):oW n l=some ((),gH l):=by
 rw[<- adR];exact YN (eq:=λx y=>x==y) (ne:=λx y=>x !=y) (λ x y=>by simp[bne]) hl hn
theorem Sw{l:List Int}{a:Int}(hl:l.length<1099511627776)(hn:l.length<n):Et n l a=some (xG (λ x=>a==x) l):=RF hl hn
theorem K6{l:List Int}{a:Int}(hl:l.length<1099511627776)(hn:l.length<n):q9 n l a=some (l.any λx=>a==x):=by
 unfold q9;rw[Sw hl hn,af,xH]
theorem FK{l:List cB}{φ:(cB×Unit)->Option Bool}(p:cB->Bool)(h:∀x∈l,φ (x,())=some (p x))(hl:l.length<1099511627776)(hn:l.length<n):rO n l φ=some (xG p l):=gD p h hl hn
theorem FL{l:List bS}{φ:(bS×Unit)->Option Bool}(p:bS->Bool)(h:∀x∈l,φ (x,())=some (p x))(hl:l.length<1099511627776)(hn:l.length<n):ko n l φ=some (xG p l):=gD p h hl hn
theorem Qc{l:List ax}(h:l.length<1099511627776):A9 l=some l:=RG (b:=32) (by omega) (by simp only[maxLen];omega)
theorem NQ{l:List (List ax)}(hf:l.flatten.length<1099511627776)(hl:l.length<1099511627776)(hn:l.length<n):yR n l=some l.flatten:=M6 (ax.mk 0 0 0 0) (b:=32) hf (by omega) hl hn
theorem CQ{a b:List ax}(hl:a.length<1099511627776)(hn:a.length<n):ow n a b=some (decide (a=b)):=by
 have e:ow n a b=Uv n (λ x1 x2:ax=>!((x1.x0==(x2.x0:Int))&&((x1.y0==(x2.y0:Int))&&((x1.x1==(x2.x1:Int))&&((x1.y1==(x2.y1:Int))&&true))))) a b:=by kernel_rfl
 rw[e];refine RH (λ x y=>?_) hl hn;obtain⟨a,b,c,d⟩:=x;obtain⟨e,f,g,h⟩:=y;simp only[ax.mk.injEq,Bool.and_true];rw[jZ];simp
theorem CR{a b:List aO}(hl:a.length<1099511627776)(hn:a.length<n):vG n a b=some (decide (a=b)):=by
 have e:vG n a b=Uv n (λ x1 x2:aO=>!((x1.from_==(x2.from_:Int))&&((x1.to==(x2.to:Int))&&true))) a b:=by kernel_rfl
 rw[e];refine RH (λ x y=>?_) hl hn;obtain⟨a,b⟩:=x;obtain⟨c,d⟩:=y;simp only[aO.mk.injEq,Bool.and_true];rw[jZ];simp
abbrev sY(a b:aO):Bool:=decide (a.from_<b.from_)
theorem NR:Go.Sort.SWO sY where
 irrefl x:=by simp[sY]
 trans x y z h1 h2:=by simp only[sY,aS]at *;omega
 ntrans x y z h1 h2:=by simp only[sY,dK]at *;omega
theorem JX{l:List aO}{φ:(aO×aO×Unit)->Option Int}(f:aO->aO->Int)(hφ:∀x y,φ (x,y,())=some (f x y))(hf:∀x y,decide (f x y<0)=sY x y)(hl:l.length<1099511627776)(_:l.length<n):uZ n l φ=some (lu sY l):=
 ad2 f hφ hf NR hl
theorem EJ{V O:Type}{step:V->Option (V⊕O)}(Inv:V->Prop)(Post:O->Prop)(μ:V->Nat)
 (h:∀v,Inv v->(∃ v',step v=some (.inl v')/\Inv v'/\μ v'< μ v)\/∃o,step v=some (.inr o)/\Post o):∀(n:Nat)(v:V),Inv v->μ v<n->∃o,iter step n v=some o/\Post o
 | 0,_,_,hn=>absurd hn (Nat.not_lt_zero _)
 |n+1,v,hi,hn=>by
  rcases h v hi with ⟨v',h1,h2,h3⟩ |⟨o,h1,h2⟩
  ·rw[iH h1];exact EJ Inv Post μ h n v' h2 (by omega)
  ·exact⟨o,fF h1,h2⟩
theorem Ij:∀(N:Nat)(l:List Nat),l.Nodup->(∀ y∈l,y<N)->l.length<=N
 | 0,[],_,_=>aC _
 | 0,x::l,_,h=>absurd (h x (by simp)) (by omega)
 |N+1,l,hn,h=>by
  have h1:=Ij N (l.filter λy=>decide (y≠N)) (hn.filter _) (λ y hy=>by
   rw[mem_filter]at hy;have:=h y hy.1;have:=hy.2;simp only[aS]at this;omega)
  have h2:=List.length_eq_countP_add_countP (λ y=>decide (y≠N)) (l:=l);rw[List.countP_eq_length_filter]at h2;have h3:List.countP (λ a=>decide ¬(decide (a≠N)=true)) l=l.count N:=by
   rw[List.count];refine List.countP_congr λy _=>?_;simp
  have h4:=List.nodup_iff_count.1 hn N;omega
def YS(us:List (List Int))(N:Nat):Prop:=us.length=N/\N<=4000000/\∀l∈us,l.length<=4000000/\∀k∈l,0<=k/\k<(N:Int)
structure BI(us:List (List Int))(N to h:Nat)(d:List Int)(F:List Nat):Prop where
 dl:d.length=N
 nd:F.Nodup
 rg:∀x∈F,x<N
 mem:∀i:Nat,i<N->(0<=d.getD i 0↔i∈F)
 ub:∀j x:Nat,F[j]? =some x->d.getD x 0<=(j:Int)
 pre:∀j x:Nat,F[j]? =some x->0<j->∃p y:Nat,p<j/\F[p]? =some y/\(y:Int)∈us.getD x []/\d.getD y 0=d.getD x 0 -1
 hd:F[0]? =some to/\d.getD to 0=0
 hh:h<=F.length
 cl:∀p y:Nat,p<h->F[p]? =some y->∀i:Nat,i<N->(y:Int)∈us.getD i []->0<=d.getD i 0
theorem BI.len{us:List (List Int)}{N to h:Nat}{d:List Int}{F:List Nat}(b:BI us N to h d F):F.length<=N:=by exact Ij N F b.nd b.rg
theorem BI.push{us:List (List Int)}{N to h:Nat}{d:List Int}{F:List Nat}(b:BI us N to h d F){i x p:Nat}(hi:i<N)(hd:d.getD i 0<0)(hp:F[p]? =some x)(hx:(x:Int)∈us.getD i []):
 BI us N to h (d.set i (d.getD x 0+1)) (F++[i]):=by
 have hiF:i∉F:=λhm=>by have:=(b.mem i hi).2 hm;omega
 have Rd:x∈F:=dm hp;have hne:∀y,y∈F->i≠y:=λy hy e=>hiF (e ▸ hy);have hset:∀y,y∈F->(d.set i (d.getD x 0+1)).getD y 0=d.getD y 0:=λy hy=>by simp only[List.getD,List.getElem?_set_ne (hne y hy)]
 have vd:(d.set i (d.getD x 0+1)).getD i 0=d.getD x 0+1:=by
  have:i<d.length:=by rw[b.dl];exact hi
  simp[List.getD,this]
 have hx0:0<=d.getD x 0:=(b.mem x (b.rg x Rd)).2 Rd;have hlt:p<F.length:=(dD.1 hp).1;refine⟨by simpa using b.dl,?_,?_,?_,?_,?_,?_,?_,?_⟩
 ·rw[List.nodup_append];exact⟨b.nd,by simp,λa ha c hc=>by simp at hc;subst hc;exact λe=>hiF (e ▸ ha)⟩
 ·intro y hy;rw[bf]at hy;rcases hy with hy |hy
  ·exact b.rg y hy
  ·simp at hy;omega
 ·intro j hj;by_cases e:i=j
  ·subst e;rw[vd];exact⟨λ _=>by simp,λ_=>by omega⟩
  ·simp only[List.getD,List.getElem?_set_ne e];rw[bf];have:=b.mem j hj;simp only[List.getD]at this;rw[this];simp[Ne.symm e]
 ·intro j y hy;rw[List.getElem?_append]at hy;split at hy
  ·rw[hset y (dm hy)];exact b.ub j y hy
  ·rename_i hj;have:y=i/\j=F.length:=by
    cases h:j -F.length with
    |zero=>rw[h]at hy;simp at hy;exact⟨hy.symm,by omega⟩
    |succ z=>rw[h]at hy;simp at hy
   obtain⟨rfl,rfl⟩:=this;rw[vd];have:=b.ub p x hp;omega
 ·intro j y hy hj;rw[List.getElem?_append]at hy;split at hy
  ·have⟨p',y',h1,h2,h3,h4⟩:=b.pre j y hy hj;exact⟨p',y',h1,by rw[List.getElem?_append_left (by have:=(dD.1 h2).1;exact this)];exact h2,h3,by rw[hset y' (dm h2),hset y (dm hy)];exact h4⟩
  ·rename_i hj';have:y=i/\j=F.length:=by
    cases h:j -F.length with
    |zero=>rw[h]at hy;simp at hy;exact⟨hy.symm,by omega⟩
    |succ z=>rw[h]at hy;simp at hy
   obtain⟨rfl,rfl⟩:=this;exact⟨p,x,hlt,by rw[List.getElem?_append_left hlt];exact hp,hx,by rw[vd,hset x Rd];omega⟩
 ·have h0:=(dD.1 b.hd.1).1;exact⟨by rw[List.getElem?_append_left h0];exact b.hd.1,by rw[hset _ (dm b.hd.1)];exact b.hd.2⟩
 ·have:=b.hh;simp;omega
 ·intro p' y hp' hy j hj hm;rw[List.getElem?_append_left (by have:=b.hh;omega)]at hy;have:=b.cl p' y hp' hy j hj hm;rw[hset j ((b.mem j hj).1 this)];exact this
theorem pj{α:Type}(o:Nat)(l:List α):Vv o l=l.drop o:=by cases o<;>simp[Vv]
def BS(us:List (List Int))(N to h x:Nat):(Int×Int×List Int×List Int)->Prop
 |(v4,v5,d,v7)=>∃(o i:Nat)(F:List Nat),v4=(o:Int)/\v5=(i:Int)/\o<=v7.length/\v7.drop o=(F.drop (h+1)).map (λ k:Nat=>(k:Int))/\i<=N/\BI us N to h d F/\F[h]? =some x/\∀i',i'<i->(x:Int)∈us.getD i' []->0<=d.getD i' 0
theorem ana{n N to h x:Nat}{a0:oU}{r1:List Int}(hg:YS a0.uses N)(hr:r1.length=N)(hn:4000001<=n)(v:Int×Int×List Int×List Int)(hv:BS a0.uses N to h x v):
 (∃ v',fT n a0 r1 x v=some (.inl v')/\BS a0.uses N to h x v'/\N -v'.2.1.toNat<N -v.2.1.toNat)\/
 ∃q,fT n a0 r1 x v=some (.inr q)/\∃(o:Nat)(F:List Nat),q.1=(o:Int)/\o<=q.2.2.length/\q.2.2.drop o=(F.drop (h+1)).map (λ k:Nat=>(k:Int))/\BI a0.uses N to (h+1) q.2.1 F:=by
 obtain⟨v4,v5,d,v7⟩:=v;obtain⟨o,i,F,rfl,rfl,ho,hq,hi,hb,hx,hc⟩:=hv;have hx':x<N:=hb.rg x (dm hx);have EV:=hg.1;have hdl:=hb.dl;by_cases hlt:i<N
 ·left;have wc:i<a0.uses.length:=by omega
  have hl:=hg.2.2 a0.uses[i] (getElem_mem wc);have hcon:=K6 (n:=n) (l:=a0.uses[i]) (a:=(x:Int)) (by omega) (by omega);have hud:a0.uses.getD i []=a0.uses[i]:=by simp[List.getD,wc]
  have hdi:d[i]'(by omega)=d.getD i 0:=by simp[List.getD,show i<d.length by omega]
  have E0:d[x]'(by omega)=d.getD x 0:=by simp[List.getD,show x<d.length by omega]
  simp only[fT,show decide ((i:Int)<((a0.uses.length:Int)))=true from by simp;omega,aj,bB wc,af,aU (show i<r1.length by omega),aU (show x<r1.length by omega),
   aY (show i<d.length by omega),aY (show x<d.length by omega),hcon,hdi,E0]
  have hFl:=hb.len;have hN:=hg.2.1;have hlen:v7.length -o=F.length -(h+1):=by have:=congrArg List.length hq;simpa using this
  have hmx:maxLen=9223372036854775807:=rfl;by_cases hA:d.getD i 0<0/\(x:Int)∈a0.uses[i]
  ·have h1:(a0.uses[i].any λy=>(x:Int)==y)=true:=any_eq_true.2 ⟨_,hA.2,by simp⟩;have hx0:0<=d.getD x 0:=(hb.mem x hx').2 (dm hx);have hxu:=hb.ub h x hx;have S7:h<F.length:=(dD.1 hx).1;have hap:bQ (v7.drop o).length (v7.length -o) (sub [(i:Int)] 0 1).length 1 8=true:=(by simp[bQ,sub];omega);have hw:i64.wrap (d.getD x 0+1)=d.getD x 0+1:=dS (by omega) (by omega);refine⟨(((0:Nat):Int),((i+1:Nat):Int),d.set i (d.getD x 0+1),v7.drop o++[(i:Int)]),?_,?_,by show N -((i+1:Nat):Int).toNat<N -(i:Int).toNat;omega⟩
   ·simp only[hA.1,decide_true,aj,af,h1,Int.toNat_natCast,pj,hap,dN,hw,aL i];simp[az,sub]
   ·refine⟨0,i+1,F++[i],rfl,rfl,Nat.zero_le _,?_,by omega,hb.push hlt hA.1 hx (by rw[hud];exact hA.2),by rw[List.getElem?_append_left S7];exact hx,?_⟩
    ·rw[List.drop_zero,hq,List.drop_append_of_le_length (by omega)];simp
    ·intro i' hi' hm;have hpush:=hb.push hlt hA.1 hx (by rw[hud];exact hA.2);by_cases e:i'=i
     ·subst e;exact(hpush.mem i' hlt).2 (by simp)
     ·have:=hc i' (by omega) hm;exact(hpush.mem i' (by omega)).2 (List.mem_append_left _ ((hb.mem i' (by omega)).1 this))
  ·have hB:(bif decide (d.getD i 0<0)then some (a0.uses[i].any λy=>(x:Int)==y)else some false)=some false:=by
    by_cases h2:d.getD i 0<0
    ·simp only[h2,decide_true,aj,aA];cases hc:(a0.uses[i].any λy=>(x:Int)==y)with
     |false=>rfl
     |true=>
      obtain⟨y,hy,e⟩:=any_eq_true.1 hc;obtain rfl:(x:Int)=y:=(by simpa using e);exact absurd ⟨h2,hy⟩ hA
    ·simp only[h2,decide_false,ak]
   refine⟨((o:Int),((i+1:Nat):Int),d,v7),?_,?_,by show N -((i+1:Nat):Int).toNat<N -(i:Int).toNat;omega⟩
   ·rw[hB];simp only[af,ak,Int.toNat_natCast,Ec (show o+(v7.length -o)=v7.length by omega),aj,aL i]
   ·refine⟨o,i+1,F,rfl,rfl,ho,hq,by omega,hb,hx,λi' hi' hm=>?_⟩;by_cases e:i'=i
    ·subst e;rw[hud]at hm;exact Int.not_lt.1 λh2=>hA ⟨h2,hm⟩
    ·exact hc i' (by omega) hm
 ·right;have hiN:i=N:=by omega
  have S7:h<F.length:=(dD.1 hx).1;refine⟨((o:Int),d,v7),?_,o,F,rfl,ho,hq,?_⟩
  ·simp only[fT,show decide ((i:Int)<((a0.uses.length:Int)))=false from by simp;omega,ak,Int.toNat_natCast,Ec (show o+(v7.length -o)=v7.length by omega),aj]
  ·refine⟨hb.dl,hb.nd,hb.rg,hb.mem,hb.ub,hb.pre,hb.hd,S7,λp y hp hy j hj hm=>?_⟩;by_cases e:p=h
   ·subst e;rw[hx]at hy;cases hy;exact hc j (by omega) hm
   ·exact hb.cl p y (by omega) hy j hj hm
def BO(us:List (List Int))(N to h:Nat):(Int×List Int×List Int)->Prop
 |(v1,d,v3)=>∃(o:Nat)(F:List Nat),v1=(o:Int)/\o<=v3.length/\v3.drop o=(F.drop h).map (λ k:Nat=>(k:Int))/\BI us N to h d F
theorem anb{n N to h:Nat}{a0:oU}{r1:List Int}(hg:YS a0.uses N)(hr:r1.length=N)(hn:4000001<=n)(v:Int×List Int×List Int)(hv:BO a0.uses N to h v):
 (∃ v',dX n a0 r1 v=some (.inl v')/\BO a0.uses N to (h+1) v')\/∃d,dX n a0 r1 v=some (.inr d)/\∃F,BI a0.uses N to F.length d F:=by
 obtain⟨v1,d,v3⟩:=v;obtain⟨o,F,rfl,ho,hq,hb⟩:=hv;have hlen:v3.length -o=F.length -h:=by have:=congrArg List.length hq;simpa using this
 by_cases hlt:h<F.length
 ·left;obtain⟨x,hx⟩:∃x,F[h]? =some x:=⟨_,dJ hlt⟩;have hox:v3[o]? =some (x:Int):=by
   have:=congrArg (λ l=>l[0]?) hq;simpa[hx]using this
  have hdr:v3.drop (o+1)=(F.drop (h+1)).map (λ k:Nat=>(k:Int)):=by
   have:=congrArg (λ l=>l.drop 1) hq;simpa using this
  obtain⟨q,hq1,o2,F2,hq2,hq3,hq4,hq5⟩:=EJ (BS a0.uses N to h x) (λ q:Int×List Int×List Int=>∃(o:Nat)(F:List Nat),q.1=(o:Int)/\o<=q.2.2.length/\q.2.2.drop o=(F.drop (h+1)).map (λ k:Nat=>(k:Int))/\BI a0.uses N to (h+1) q.2.1 F)
   (λ v=>N -v.2.1.toNat) (ana (r1:=r1) hg hr hn) n (((o+1:Nat):Int),0,d,v3) ⟨o+1,0,F,rfl,rfl,by omega,hdr,Nat.zero_le _,hb,hx,λi' hi'=>absurd hi' (Nat.not_lt_zero _)⟩ (by have:=hg.2.1;simp;omega)
  obtain⟨w1,w2,w3⟩:=q;simp only at hq2 hq3 hq4 hq5;subst hq2;refine⟨((o2:Int),w2,w3),?_,o2,F2,rfl,hq3,hq4,hq5⟩;have hat:bo v3 ((o:Int)+0)=some (x:Int):=by rw[Int.add_zero,ZZ];exact hox
  simp only[dX,Int.toNat_natCast,show decide (((v3.length -o:Nat):Int)>0)=true from by simp;omega,aj,show cC 0 (v3.length -o)=true from by simp[cC];omega,hat,af,
   yA (show (0:Int)<=1 by omega) (show (1:Int)<=((v3.length -o:Nat):Int)by omega) (Int.le_refl _),Ec (show o+1+(v3.length -o -1)=v3.length by omega),hq1,Ec (show o2+(w3.length -o2)=w3.length by omega)]
 ·right;have hhF:h=F.length:=by have:=hb.hh;omega
  refine⟨d,?_,F,hhF ▸ hb⟩;simp only[dX,Int.toNat_natCast,show decide (((v3.length -o:Nat):Int)>0)=false from by simp;omega,ak]
theorem dH{V O:Type}{step:V->Option (V⊕O)}(Inv:Nat->V->Prop)(Post:O->Prop)(K:Nat)(hK:∀k v,Inv k v->k<=K)
 (h:∀k v,Inv k v->(∃ v',step v=some (.inl v')/\Inv (k+1) v')\/∃o,step v=some (.inr o)/\Post o):∀(n k:Nat)(v:V),Inv k v->K<n+k->∃o,iter step n v=some o/\Post o
 | 0,k,v,hi,hn=>absurd (hK k v hi) (by omega)
 |n+1,k,v,hi,hn=>by
  rcases h k v hi with ⟨v',h1,h2⟩ |⟨o,h1,h2⟩
  ·rw[iH h1];exact dH Inv Post K hK h n (k+1) v' h2 (by omega)
  ·exact⟨o,fF h1,h2⟩
theorem abN{n N to:Nat}{a0:oU}(hg:YS a0.uses N)(hd:a0.defs.length=N)(hn:4000002<=n)(ht:to<N):∃d F,jK n a0 to=some d/\BI a0.uses N to F.length d F:=by
 have hN:=hg.2.1;have hr:qH (sub ([(-1)]:List Int) 0 1) (N:Int)=some (List.replicate N (-1)):=by
  show(ck (decide (0<=(N:Int))&&decide ((N:Int)<=1000000000000)) (some (List.replicate (N:Int).toNat (-1))))=_;rw[show decide (0<=(N:Int))=true by simp,show decide ((N:Int)<=1000000000000)=true by simp;omega];rfl
 have hlr:(List.replicate N (-1:Int)).length=N:=List.length_replicate;have hb0:BI a0.uses N to 0 ((List.replicate N (-1:Int)).set to 0) [to]:=by
  have hto:((List.replicate N (-1:Int)).set to 0).getD to 0=0:=by simp[List.getD,ht]
  refine⟨by simp,by simp,λx hx=>by simp at hx;omega,λi hi=>?_,λj x hx=>?_,λj x hx hj=>?_,⟨rfl,hto⟩,by simp,λp y hp=>absurd hp (Nat.not_lt_zero _)⟩
  ·by_cases e:to=i
   ·subst e;rw[hto];simp
   ·simp only[List.getD,List.getElem?_set_ne e];simp[hi,Ne.symm e]
  ·cases j with
   |zero=>simp at hx;subst hx;rw[hto];simp
   |succ j=>simp at hx
  ·cases j with
   |zero=>omega
   |succ j=>simp at hx
 obtain⟨d,h1,F,h2⟩:=dH (step:=dX n a0 (List.replicate N (-1))) (λ h v=>BO a0.uses N to h v) (λ d=>∃F,BI a0.uses N to F.length d F) N (λ h v ⟨_,_,_,_,_,hb⟩=>Nat.le_trans hb.hh hb.len) (λ h v hv=>anb (n:=n) (r1:=List.replicate N (-1)) hg hlr (by omega) v hv) n 0
  (((0:Nat):Int),(List.replicate N (-1:Int)).set to 0,[(to:Int)]) ⟨0,[to],rfl,Nat.zero_le _,rfl,hb0⟩ (by omega)
 refine⟨d,F,?_,h2⟩;have hdl:d.length=N:=h2.dl;have h1':iter (dX n a0 (List.replicate N (-1))) n ((0:Int),(List.replicate N (-1:Int)).set to 0,[(to:Int)])=some d:=h1;simp only[jK,hd,hr,af,hlr,aU ht,aY (show to<(List.replicate N (-1:Int)).length by omega),aj,show(((0:Nat):Int)+(to:Int)).toNat=to by omega,h1,h1'];simp[az,sub,hdl];exact take_of_length_le (Nat.le_of_eq hdl)
def Nr(d:List Int)(l:List Int)(w:Int):Prop:=
 (w= -1/\∀k∈l,d.getD k.toNat 0<0)\/(w∈l/\0<=d.getD w.toNat 0/\∀k∈l,0<=d.getD k.toNat 0->d.getD w.toNat 0<=d.getD k.toNat 0)
theorem Nr.snoc{d l:List Int}{w k:Int}(h:Nr d l w)(hk:0<=k)(hl:∀x∈l,0<=x):Nr d (l++[k]) (if 0<=d.getD k.toNat 0/\(w<0\/d.getD k.toNat 0<d.getD w.toNat 0)then k else w):=by
 split
 ·rename_i h1;refine .inr ⟨by simp,h1.1,λz hz h0=>?_⟩;rw[bf]at hz;rcases hz with hz |hz
  ·rcases h with ⟨rfl,h⟩ |⟨hw,hw0,h⟩
   ·have:=h z hz;omega
   ·have h2:=h z hz h0;have:=hl w hw;rcases h1.2 with h3 |h3<;>omega
  ·simp at hz;subst hz;exact Int.le_refl _
 ·rename_i h1;rcases h with ⟨rfl,h⟩ |⟨hw,hw0,h⟩
  ·refine .inl ⟨rfl,λz hz=>?_⟩;rw[bf]at hz;rcases hz with hz |hz
   ·exact h z hz
   ·simp at hz;subst hz;exact Int.not_le.1 λh2=>h1 ⟨h2,.inl (by omega)⟩
  ·refine .inr ⟨List.mem_append_left _ hw,hw0,λz hz h0=>?_⟩;rw[bf]at hz;rcases hz with hz |hz
   ·exact h z hz h0
   ·simp at hz;subst hz;exact Int.not_lt.1 λh2=>h1 ⟨h0,.inr h2⟩
theorem ane{n N:Nat}{d l:List Int}(hd:d.length=N)(hl:l.length<=4000000)(hr:∀k∈l,0<=k/\k<(N:Int))(hn:4000001<=n):∃w,iter (iF d l) n ((-1:Int),(0:Int))=some w/\Nr d l w:=by
 refine dH (λ i (v:Int×Int)=>i<=l.length/\v.2=(i:Int)/\Nr d (l.take i) v.1) (λ w=>Nr d l w) l.length (λ k v h=>h.1) ?_ n 0 _ ⟨Nat.zero_le _,rfl,.inl ⟨rfl,by simp⟩⟩ (by omega);rintro i ⟨v3,v4⟩ ⟨hi,rfl,hN⟩;by_cases hlt:i<l.length
 ·left;have hk:=hr l[i] (getElem_mem hlt);obtain⟨k,hk2⟩:=Int.eq_ofNat_of_zero_le hk.1;have hkN:k<d.length:=by omega
  have HC:d[k]=d.getD k 0:=by simp[List.getD,hkN]
  have htk:l.take (i+1)=l.take i++[l[i]]:=by rw[List.take_add_one,dJ hlt];rfl
  have hlk:∀x∈l.take i,0<=x:=λx hx=>(hr x (List.mem_of_mem_take hx)).1;have hsn:=hN.snoc hk.1 hlk;refine⟨(if 0<=d.getD (l[i]).toNat 0/\(v3<0\/d.getD (l[i]).toNat 0<d.getD v3.toNat 0)then l[i]else v3,((i+1:Nat):Int)),?_,hlt,rfl,by rw[htk];exact hsn⟩;simp only[iF,show decide ((i:Int)<(l.length:Int))=true from by simp;omega,aj,bB hlt,af,hk2,aU hkN,aY hkN,HC,Int.toNat_natCast,aL i];by_cases h0:0<=d.getD k 0
  ·by_cases h1:v3<0
   ·simp only[h0,h1,ge_iff_le,decide_true,aj,af,true_and,true_or,if_true]
   ·have hv:v3∈l.take i:=by
     rcases hN with ⟨rfl,_⟩ |⟨h,_⟩
     ·omega
     ·exact h
    have AN:=hr v3 (List.mem_of_mem_take hv);obtain⟨z,hz⟩:=Int.eq_ofNat_of_zero_le AN.1;subst hz;have Ek:z<d.length:=(by omega);have hgz:d[z]=d.getD z 0:=(by simp[List.getD,Ek]);simp only[h0,ge_iff_le,decide_true,aj,h1,decide_false,ak,aU Ek,aY Ek,af,hgz,Int.toNat_natCast,true_and,false_or];by_cases h2:d.getD k 0<d.getD z 0
    ·simp only[h2,decide_true,aj,if_true,af]
    ·simp only[h2,decide_false,ak,if_false,af]
  ·simp only[h0,ge_iff_le,decide_false,ak,af,false_and,if_false]
 ·right;refine⟨v3,?_,?_⟩
  ·simp only[iF,show decide ((i:Int)<(l.length:Int))=false from by simp;omega,ak]
  ·rw[take_of_length_le (by omega)]at hN;exact hN
theorem BI.step{us:List (List Int)}{N to h:Nat}{d:List Int}{F:List Nat}(b:BI us N to h d F){x:Nat}(hx:x<N)(hne:x≠to)(h0:0<=d.getD x 0):∃y:Nat,(y:Int)∈us.getD x []/\d.getD y 0=d.getD x 0 -1/\0<=d.getD y 0:=by
 obtain⟨j,hj,hjx⟩:=mem_iff_getElem.1 ((b.mem x hx).1 h0);have hj':F[j]? =some x:=by rw[dJ hj,hjx]
 have hj0:0<j:=by
  cases j with
  |zero=>rw[b.hd.1]at hj';cases hj';exact absurd rfl hne
  |succ j=>exact Nat.succ_pos _
 have⟨p,y,_,h2,h3,h4⟩:=b.pre j x hj' hj0;have hyF:=dm h2;exact⟨y,h3,h4,(b.mem y (b.rg y hyF)).2 hyF⟩
theorem ajv{n N fr:Nat}{a1:List fA}{us:List (List Int)}(hg:YS us N)(hd:a1.length=N)(hn:4000003<=n)(hf:fr<N):∃d F c,BI us N fr F.length d F/\jM n fr a1 us=some (a1,us,c)/\c.length<=N+1/\(c=[]->∀k∈us.getD fr [],d.getD k.toNat 0<0):=by
 obtain⟨d,F,hdi,hb⟩:=abN (n:=n) (a0:=oU.mk a1 us) hg hd (by omega) hf;have hN:=hg.2.1;have EV:=hg.1;have hmx:maxLen=9223372036854775807:=rfl;have hloop:∃o,iter (kM n fr a1 us d) n ((fr:Int),([]:List ByteArray))=some o/\∃c,o= .inr (a1,us,c)/\c.length<=N+1/\(c=[]->∀k∈us.getD fr [],d.getD k.toNat 0<0):=by
  refine dH (λ k (v:Int×List ByteArray)=>∃at_:Nat,v.1=(at_:Int)/\at_<N/\v.2.length=k/\k<=N/\((k=0/\at_=fr)\/(0<k/\at_≠fr/\0<=d.getD at_ 0/\d.getD at_ 0+k<=N))) _ N (λ k v ⟨_,_,_,_,h,_⟩=>h) ?_ n 0 _ ⟨fr,rfl,hf,rfl,Nat.zero_le _,.inl ⟨rfl,rfl⟩⟩ (by omega);rintro k ⟨v1,v2⟩ ⟨x,rfl,hx,hv2,hkN,hst⟩;simp only at hv2;have hxa:x<a1.length:=by omega
  have hxu:x<us.length:=by omega
  have hl:=hg.2.2 us[x] (getElem_mem hxu);obtain⟨w,hw,hnr⟩:=ane (n:=n) (d:=d) (l:=us[x]) hb.dl hl.1 hl.2 (by omega);have hgu:us.getD x []=us[x]:=by simp[List.getD,hxu]
  have hap:bQ v2.length v2.length (sub [a1[x].name] 0 1).length 1 16=true:=by simp[bQ,sub];omega
  simp only[kM,bB hxa,bB hxu,af,hap,aj,dN,hw];have hsl:(v2++sub [a1[x].name] 0 1).length=k+1:=by simp[sub,hv2]
  have hne:((v2++sub [a1[x].name] 0 1).length==0)=false:=by rw[hsl];simp
  rcases hnr with ⟨rfl,hno⟩ |⟨hwm,hw0,hmin⟩
  ·right;refine⟨.inr (a1,us,[]),by simp[az],[],rfl,by simp,λ_=>?_⟩;rcases hst with ⟨_,rfl⟩ |⟨_,Q4,hx0,_⟩
   ·rw[hgu];exact hno
   ·have⟨y,hy,_,hy0⟩:=hb.step hx Q4 hx0;have hy':(y:Int)∈us[x]:=(by rw[<- hgu];exact hy);have:=hno _ hy';simp only[Int.toNat_natCast]at this;omega
  ·have hwr:=hl.2 w hwm;obtain⟨z,rfl⟩:=Int.eq_ofNat_of_zero_le hwr.1;simp only[Int.toNat_natCast]at hw0 hmin;by_cases hzf:z=fr
   ·right;subst hzf;refine⟨.inr (a1,us,v2++sub [a1[x].name] 0 1),?_,_,rfl,by omega,λh=>by rw[h]at hsl;simp at hsl⟩;simp only[show decide ((z:Int)<0)=false from by simp,ak,beq_self_eq_true,aj,hne,Bool.not_false,Bool.true_and,aD,Option.map_some]
   ·left;have Ek:z<N:=(by omega);have hb1:d.getD z 0+((k+1:Nat):Int)<=N:=by
     rcases hst with ⟨hk0,rfl⟩ |⟨_,Q4,hx0,hle⟩
     ·have hzF:=(hb.mem z Ek).1 hw0;obtain⟨j,hj,hjz⟩:=mem_iff_getElem.1 hzF;have h3:=hb.ub j z (by rw[dJ hj,hjz]);have:=hb.len;omega
     ·have⟨y,hy,hyd,hy0⟩:=hb.step hx Q4 hx0;have:=hmin y (by rw[<- hgu];exact hy) (by simpa using hy0);simp only[Int.toNat_natCast]at this;omega
    refine⟨((z:Int),v2++sub [a1[x].name] 0 1),?_,z,rfl,Ek,hsl,by omega,.inr ⟨Nat.succ_pos _,hzf,hw0,hb1⟩⟩;simp only[show decide ((z:Int)<0)=false from by simp,ak,show((z:Int)==(fr:Int))=false from by simp;omega,aD,aj]
 obtain⟨o,h1,c,rfl,h2⟩:=hloop;refine⟨d,F,c,hb,?_,h2⟩;simp only[jM,hdi,af,h1];simp[az]
theorem abO(a b:ByteArray):∃r,nJ a b=some r:=by
 simp only[nJ,cmp_isNaN_string,af];cases (!a.toList==a.toList)<;>cases (!b.toList==b.toList)<;>cases Vr a b<;>cases (a.toList==b.toList)<;>exact⟨_,rfl⟩
theorem abP{a b:List ByteArray}(ha:a.length<=5000000)(hn:5000001<=n):∃r,lT n a b=some r:=by
 obtain⟨o,h,_⟩:=dH (step:=lQ a b) (λ i (v:Int)=>v=(i:Int)/\i<=a.length) (λ _=>True) a.length (λ k v h=>h.2) (by
  rintro i v ⟨rfl,hi⟩;by_cases hlt:i<a.length
  ·simp only[lQ,show decide ((i:Int)<(a.length:Int))=true from by simp;omega,aj,bB hlt,af];by_cases hb:i<b.length
   ·have⟨r,hr⟩:=abO a[i] b[i];simp only[show decide ((i:Int)>=(b.length:Int))=false from by simp;omega,ak,bB hb,af,hr];cases hr0:(r !=(0:Int))with
    |true=>exact .inr ⟨_,rfl,trivial⟩
    |false=>exact .inl ⟨_,rfl,by rw[bL (by omega)],by omega⟩
   ·simp only[show decide ((i:Int)>=(b.length:Int))=true from by simp;omega,aj];exact .inr ⟨_,rfl,trivial⟩
  ·simp only[lQ,show decide ((i:Int)<(a.length:Int))=false from by simp;omega,ak];exact .inr ⟨_,rfl,trivial⟩) n 0 0 ⟨rfl,Nat.zero_le _⟩ (by omega)
 simp only[lT,h];cases o with
 |inl u=>cases u;simp only[d9];cases decide ((a.length:Int)<(b.length:Int))<;>exact⟨_,rfl⟩
 |inr r=>exact⟨r,by simp⟩
def tc(us:List (List Int))(N j:Nat):Prop:=∃d F,BI us N j F.length d F/\∀k∈us.getD j [],d.getD k.toNat 0<0
theorem ad9{n N:Nat}{a0:List fA}{us:List (List Int)}(hg:YS us N)(hd:a0.length=N)(hn:5000003<=n):∃c,iW n a0 us=some (a0,us,c)/\(c=[]->∀j,j<N->tc us N j)/\c.length<=N+1:=by
 have hN:=hg.2.1
 obtain⟨o,h1,c,rfl,h2⟩:=dH (step:=gU n a0) (λ i (v:Int×List fA×List (List Int)×List ByteArray)=>∃c,v=((i:Int),a0,us,c)/\i<=N/\c.length<=N+1/\(c=[]->∀j,j<i->tc us N j))
  (λ o=>∃c,o=(a0,us,c)/\(c=[]->∀j,j<N->tc us N j)/\c.length<=N+1) N (λ k v ⟨_,_,h,_⟩=>h) (by
  rintro i v ⟨c,rfl,hi,hcl,hc⟩;by_cases hlt:i<N
  ·left;obtain⟨d,F,c2,hb,hci,SP,hc2⟩:=ajv (n:=n) (a1:=a0) hg hd (by omega) hlt;simp only[gU,show decide ((i:Int)<(a0.length:Int))=true from by simp;omega,aj,hci,af,aL i,bZ,aD];have hfin:∀c':List ByteArray,c'.length<=N+1->(c'=[]->c=[]/\c2=[])->∃c'',(((i+1:Nat):Int),a0,us,c')=(((i+1:Nat):Int),a0,us,c'')/\i+1<=N/\c''.length<=N+1/\(c''=[]->∀j,j<i+1->tc us N j):=λc' hl' he=>
    ⟨c',rfl,hlt,hl',λe j hj=>by
     have⟨e1,e2⟩:=he e;by_cases h:j=i
     ·subst h;exact⟨d,F,hb,hc2 e2⟩
     ·exact hc e1 j (by omega)⟩
   obtain⟨r,hr⟩:=abP (n:=n) (a:=c2) (b:=c) (by omega) (by omega);cases h0:(c2.length==0)with
   |true=>
    have e2:c2=[]:=List.eq_nil_of_length_eq_zero (by simpa using h0);exact⟨_,by simp only[aj,af],hfin c hcl λe=>⟨e,e2⟩⟩
   |false=>
    have hne:c2≠[]:=λe=>(by rw[e]at h0;simp at h0);simp only[ak,af];have key:∃b,(bif c.length==0 then some true else bif decide ((c2.length:Int)<(c.length:Int))then some true else bif(c2.length:Int)==(c.length:Int)then(lT n c2 c).bind λr2=>some (decide (r2<0))else some false)=some b/\(c.length=0->b=true):=by
     cases h3:(c.length==0)with
     |true=>exact⟨true,rfl,λ_=>rfl⟩
     |false=>
      have hcn:c.length≠0:=(by simpa using h3);simp only[ak,hr,af];cases decide ((c2.length:Int)<(c.length:Int))<;>cases ((c2.length:Int)==(c.length:Int))<;>exact⟨_,rfl,λe=>absurd e hcn⟩
    obtain⟨b,hb1,hb2⟩:=key;rw[hb1];cases b with
    |true=>exact⟨_,by simp only[aj,af],hfin c2 SP λe=>absurd e hne⟩
    |false=>exact⟨_,by simp only[ak,af],hfin c hcl λe=>by rw[e]at hb2;exact absurd (hb2 rfl) (by simp)⟩
  ·right;refine⟨(a0,us,c),?_,c,rfl,λe j hj=>hc e j (by omega),hcl⟩;simp only[gU,show decide ((i:Int)<(a0.length:Int))=false from by simp;omega,ak,aD,aj]) n 0 ((0:Int),a0,us,[]) ⟨[],rfl,Nat.zero_le _,by simp,λ_ j hj=>absurd hj (Nat.not_lt_zero _)⟩ (by omega)
 exact⟨c,by simp[iW,h1,az],h2⟩
theorem BI.back{us:List (List Int)}{N to:Nat}{d:List Int}{F:List Nat}(b:BI us N to F.length d F){i y:Nat}(hi:i<N)(hy:y<N)(h:(y:Int)∈us.getD i [])(h0:0<=d.getD y 0):0<=d.getD i 0:=by
 obtain⟨j,hj,hjy⟩:=mem_iff_getElem.1 ((b.mem y hy).1 h0);exact b.cl j y hj (by rw[dJ hj,hjy]) i hi h
theorem anf{us:List (List Int)}{N:Nat}(hg:YS us N)(hf:∀j,j<N->tc us N j)(done:Nat->Prop){i0:Nat}(h0:i0<N)(hd0:¬done i0):∃i,i<N/\¬done i/\∀k∈us.getD i [],done k.toNat:=by
 refine pz λhno=>?_;have hstep:∀i:{i:Nat // i<N/\¬done i},∃k:{k:Nat // k<N/\¬done k},(k.1:Int)∈us.getD i.1 []:=by
  rintro⟨i,hi,hnd⟩;refine pz λh=>hno ⟨i,hi,hnd,λk hk=>pz λhkd=>h ?_⟩;have hl:us.getD i []∈us:=by
   have:i<us.length:=(by rw[hg.1];exact hi);simp[List.getD,this]
  have hr:=(hg.2.2 _ hl).2 k hk;exact⟨⟨k.toNat,by omega,hkd⟩,by show(k.toNat:Int)∈_;rw[Int.toNat_of_nonneg hr.1];exact hk⟩
 obtain⟨f,hfs⟩:=Classical.axiomOfChoice hstep
 let g:Nat->{i:Nat // i<N/\¬done i}:=λj=>Nat.rec ⟨i0,h0,hd0⟩ (λ _ x=>f x) j
 have hgs:∀j,((g (j+1)).1:Int)∈us.getD (g j).1 []:=λj=>hfs (g j);have hnd:¬((List.range (N+1)).map λj=>(g j).1).Nodup:=λh=>by
  have:=Ij N _ h λy hy=>by
   obtain⟨j,_,rfl⟩:=mem_map.1 hy;exact(g j).2.1
  rw[length_map,List.length_range]at this;omega
 obtain⟨a,b,hab,he⟩:∃a b,a<b/\(g a).1=(g b).1:=by
  refine pz λh=>hnd ?_;rw[List.nodup_iff_pairwise_ne,List.pairwise_map];exact List.pairwise_lt_range.imp λ{x y} hxy e=>h ⟨x,y,hxy,e⟩
 obtain⟨d,F,hb,hneg⟩:=hf _ (g a).2.1;have hall:∀c,a<b -c->c<b -a->0<=d.getD (g (b -c)).1 0:=by
  intro c
  induction c with
  |zero=>intro _ _;rw[Nat.sub_zero,<- he,hb.hd.2];exact Int.le_refl _
  |succ c ih=>
   intro h1 h2;have:=ih (by omega) (by omega);have e:b -c=b -(c+1)+1:=(by omega);rw[e]at this;exact hb.back (g (b -(c+1))).2.1 (g (b -(c+1)+1)).2.1 (hgs (b -(c+1))) this
 have h1:=hall (b -a -1) (by omega) (by omega);have e:b -(b -a -1)=a+1:=by omega
 rw[e]at h1;have h2:=hneg _ (hgs a);simp only[Int.toNat_natCast]at h2;omega
theorem aea{n N:Nat}{l:List Int}{done:List Bool}(hd:done.length=N)(hl:l.length<=4000000)(hr:∀k∈l,0<=k/\k<(N:Int))(hn:4000001<=n):
 ∃r,iq n l done=some (r,done)/\(r=false↔∀k∈l,done.getD k.toNat false=true):=by
 obtain⟨o,h1,h2⟩:=dH (step:=jL l) (λ i (v:Int×List Bool)=>v=((i:Int),done)/\i<=l.length/\∀k∈l.take i,done.getD k.toNat false=true)
  (λ o=>(o= .inl done/\∀k∈l,done.getD k.toNat false=true)\/∃i:Nat,o= .inr ((i:Int),done)/\∃k∈l,done.getD k.toNat false=false) l.length (λ k v h=>h.2.1) (by
  rintro i v ⟨rfl,hi,hall⟩;by_cases hlt:i<l.length
  ·have hk:=hr l[i] (getElem_mem hlt);obtain⟨k,hk2⟩:=Int.eq_ofNat_of_zero_le hk.1;have hkN:k<done.length:=(by omega);have HC:done[k]=done.getD k false:=(by simp[List.getD,hkN]);have htk:l.take (i+1)=l.take i++[l[i]]:=(by rw[List.take_add_one,dJ hlt];rfl);simp only[jL,show decide ((i:Int)<(l.length:Int))=true from by simp;omega,aj,bB hlt,af,aD,hk2,l9,aU hkN,aY hkN,HC];cases hdk:done.getD k false with
   |true=>
    refine .inl ⟨_,by simp only[Bool.not_true,ak];rfl,by rw[bL (by omega)],hlt,λz hz=>?_⟩;rw[htk,bf]at hz;rcases hz with hz |hz
    ·exact hall z hz
    ·simp only[aW]at hz;rw[hz,hk2];simpa using hdk
   |false=>exact .inr ⟨_,by simp only[Bool.not_false,aj,Option.map_some],.inr ⟨i,rfl,l[i],getElem_mem hlt,by rw[hk2];simpa using hdk⟩⟩
  ·refine .inr ⟨.inl done,?_,.inl ⟨rfl,by rw[take_of_length_le (by omega)]at hall;exact hall⟩⟩;simp only[jL,show decide ((i:Int)<(l.length:Int))=false from by simp;omega,ak,aD,aj]) n 0 ((0:Int),done) ⟨rfl,Nat.zero_le _,by simp⟩ (by omega)
 rcases h2 with ⟨rfl,h2⟩ |⟨i,rfl,k,hk,hkd⟩
 ·exact⟨false,by simp[iq,mI,h1],λ_=>h2,λ_=>rfl⟩
 ·refine⟨true,by simp[iq,mI,h1],λh=>(by cases h),λh=>?_⟩;rw[h k hk]at hkd;cases hkd
def Lk(us:List (List Int))(N:Nat)(done:List Bool)(i:Nat)(w:Int):Prop:=
 (w= -1/\∀j,j<i->¬(done.getD j false=false/\∀k∈us.getD j [],done.getD k.toNat false=true))\/∃j:Nat,w=(j:Int)/\j<i/\done.getD j false=false
theorem alx{n N:Nat}{a0:oU}{done:List Bool}(hg:YS a0.uses N)(hd:a0.defs.length=N)(hl:done.length=N)(hn:4000002<=n):∃w,iter (iL n a0) n ((-1:Int),(0:Int),done)=some (w,done)/\Lk a0.uses N done N w:=by
 have hN:=hg.2.1;have EV:=hg.1;obtain⟨o,h1,w,rfl,h2⟩:=dH (step:=iL n a0) (λ i (v:Int×Int×List Bool)=>∃w,v=(w,(i:Int),done)/\i<=N/\Lk a0.uses N done i w) (λ o=>∃w,o=(w,done)/\Lk a0.uses N done N w) N (λ k v ⟨_,_,h,_⟩=>h) (by
  rintro i v ⟨w,rfl,hi,hw⟩;by_cases hlt:i<N
  ·left;have hiu:i<a0.uses.length:=(by omega);have hid:i<a0.defs.length:=(by omega);have hib:i<done.length:=(by omega);have hl2:=hg.2.2 a0.uses[i] (getElem_mem hiu);obtain⟨r,hr1,hr2⟩:=aea (n:=n) hl hl2.1 hl2.2 (by omega);have hgi:a0.uses.getD i []=a0.uses[i]:=(by simp[List.getD,hiu]);have hdi:done[i]=done.getD i false:=(by simp[List.getD,hib]);simp only[iL,show decide ((i:Int)<(a0.uses.length:Int))=true from by simp;omega,aj,bB hiu,af,aD,hr1,aU hib,aY hib,hdi,aL i];have keep:(done.getD i false=true\/r=true)->Lk a0.uses N done (i+1) w:=by
    intro hno;rcases hw with ⟨rfl,hw⟩ |⟨j,rfl,hj,hw⟩
    ·refine .inl ⟨rfl,λj hj h=>?_⟩;by_cases e:j=i
     ·subst e;rw[hgi]at h;rcases hno with h3 |h3
      ·rw[h3]at h;exact absurd h.1 (by simp)
      ·have:=hr2.2 h.2;rw[h3]at this;cases this
     ·exact hw j (by omega) h
    ·exact .inr ⟨j,rfl,by omega,hw⟩
   cases hdn:done.getD i false with
   |true=>exact⟨_,by simp only[Bool.not_true,ak,af],w,rfl,hlt,keep (.inl hdn)⟩
   |false=>
    cases r with
    |true=>exact⟨_,by simp only[Bool.not_false,Bool.not_true,aj,ak,af],w,rfl,hlt,keep (.inr rfl)⟩
    |false=>
     have an:Lk a0.uses N done (i+1) i:= .inr ⟨i,rfl,by omega,hdn⟩;rcases hw with ⟨rfl,hw⟩ |⟨j,rfl,hj,hw⟩
     ·exact⟨_,by simp only[Bool.not_false,aj,show decide ((-1:Int)<0)=true from rfl,af],_,rfl,hlt,an⟩
     ·have hjd:j<a0.defs.length:=(by omega);simp only[Bool.not_false,aj,show decide ((j:Int)<0)=false from by simp,ak,bB hid,bB hjd,af];cases Vr a0.defs[i].name a0.defs[j].name with
      |true=>exact⟨_,rfl,_,rfl,hlt,an⟩
      |false=>exact⟨_,rfl,_,rfl,hlt,.inr ⟨j,rfl,by omega,hw⟩⟩
  ·right;have hiN:i=N:=(by omega);refine⟨(w,done),?_,w,rfl,hiN ▸ hw⟩;simp only[iL,show decide ((i:Int)<(a0.uses.length:Int))=false from by simp;omega,ak,aD,aj]) n 0 ((-1:Int),(0:Int),done) ⟨_,rfl,Nat.zero_le _,.inl ⟨rfl,λj hj=>absurd hj (Nat.not_lt_zero _)⟩⟩ (by omega)
 exact⟨w,h1,h2⟩
theorem aly{n N:Nat}{a0:oU}(hg:YS a0.uses N)(hd:a0.defs.length=N)(hf:∀j,j<N->tc a0.uses N j)(hn:4000002<=n):∃l,nK n a0=some l/\l.length=N/\∀k∈l,0<=k/\k<(N:Int):=by
 have hN:=hg.2.1;have hmx:maxLen=9223372036854775807:=rfl
 obtain⟨o,h1,h2⟩:=dH (step:=kI n a0) (λ c (v:Int×List Int×List Bool)=>∃ab done,v=((c:Int),ab,done)/\c<=N/\ab.length=c/\(∀ k∈ab,0<=k/\k<(N:Int))/\done.length=N/\done.count false=N -c)
  (λ o=>o.length=N/\∀k∈o,0<=k/\k<(N:Int)) N (λ k v ⟨_,_,_,h,_⟩=>h) (by
  rintro c v ⟨ab,done,rfl,hc,hol,hor,hdl,hcf⟩;by_cases hlt:c<N
  ·left;have⟨w,hw1,hw2⟩:=alx (n:=n) hg hd hdl hn;have hopen:∃i0,i0<N/\done.getD i0 false=false:=by
    have hm:false∈done:=List.count_pos_iff.1 (by omega);obtain⟨i0,h0,e⟩:=mem_iff_getElem.1 hm;exact⟨i0,by omega,by simp[List.getD,h0,e]⟩
   obtain⟨i0,h0,h0d⟩:=hopen;obtain⟨i,hi,hid,hia⟩:=anf hg hf (λ j=>done.getD j false=true) h0 (by rw[h0d];simp);rcases hw2 with ⟨rfl,hw2⟩ |⟨j,rfl,hj,hjd⟩
   ·exact absurd ⟨Bool.eq_false_iff.2 hid,hia⟩ (hw2 i hi)
   ·have hjl:j<done.length:=(by omega);have hap:bQ ab.length ab.length (sub [(j:Int)] 0 1).length 1 8=true:=(by simp[bQ,sub];omega);have hset:(done.set j true).length=done.length:=(by simp);refine⟨(((c+1:Nat):Int),ab++[(j:Int)],done.set j true),?_,_,_,rfl,hlt,by simp[hol],?_,by simp[hdl],?_⟩
    ·simp only[kI,show decide ((c:Int)<(a0.defs.length:Int))=true from by simp;omega,aj,aD,hw1,af,aU hjl,aY hjl,hap,dN,aL c,show(((0:Nat):Int)+(j:Int)).toNat=j by omega,Ec hset.symm];simp[sub]
    ·intro k hk;rw[bf]at hk;rcases hk with hk |hk
     ·exact hor k hk
     ·simp at hk;subst hk;omega
    ·have hjf:done[j]=false:=(by simpa[List.getD,hjl]using hjd);rw[List.count_set hjl,hcf,hjf];simp;omega
  ·right;have:c=N:=(by omega);refine⟨ab,?_,by omega,hor⟩;simp only[kI,show decide ((c:Int)<(a0.defs.length:Int))=false from by simp;omega,ak,aD,aj]) n 0 ((0:Int),[],List.replicate N false) ⟨[],_,rfl,Nat.zero_le _,rfl,by simp,by simp,by simp⟩ (by omega)
 refine⟨o,?_,h2⟩;have hmk:zG (N:Int) 1=true:=by simp[zG];omega
 simp only[nK,hd,Int.le_refl,decide_true,Bool.true_and,show decide ((0:Int)<=(N:Int))=true from by simp,hmk,aj,Int.toNat_natCast,h1,af,bZ,aD];simp[az]
def oX(ab:List aO)(s:aO):List aO:=
 match ab.getLast? with
 |some q=>bif decide (s.from_<=q.to)then ab.dropLast++[⟨q.from_,max q.to s.to⟩]else ab++[s]
 |none=>[s]
theorem WS(ab:List aO)(s:aO):(oX ab s).length<=ab.length+1:=by
 unfold oX;cases ab.getLast? with
 |none=>simp
 |some q=>simp only;cases decide (s.from_<=q.to)<;>simp<;>omega
theorem agu(o:List aO)(q s:aO):oX (o++[q]) s=bif decide (s.from_<=q.to)then o++[⟨q.from_,max q.to s.to⟩]else o++[q]++[s]:=by simp[oX]
abbrev DP(s:aO):Prop:=s.from_<s.to
def hZ(l:List aO)(y:Int):Bool:=l.any λs=>decide (s.from_<=y)&&decide (y<s.to)
def Can(l:List aO):Prop:=l.Pairwise (λ a b=>a.to<b.from_)/\∀s∈l,DP s
theorem NS(l:List aO)(y:Int):hZ l y=true↔∃s∈l,s.from_<=y/\y<s.to:=by simp[hZ]
theorem EK(l m:List aO)(y:Int):hZ (l++m) y=(hZ l y || hZ m y):=by simp[hZ]
theorem JJ(y:Int):hZ [] y=false:=rfl
theorem og(s:aO)(l:List aO)(y:Int):hZ (s::l) y=((decide (s.from_<=y)&&decide (y<s.to)) || hZ l y):=by simp[hZ]
theorem aeb{l m:List aO}(h:l.Perm m)(y:Int):hZ l y=hZ m y:=by
 rw[jZ,NS,NS];exact⟨λ ⟨s,hs,h1⟩=>⟨s,h.mem_iff.1 hs,h1⟩,λ⟨s,hs,h1⟩=>⟨s,h.mem_iff.2 hs,h1⟩⟩
theorem aie:Can []:=⟨List.Pairwise.nil,by simp⟩
theorem alz{ab:List aO}{s:aO}(hc:Can ab)(hs:DP s)(hb:∀o∈ab,o.from_<=s.from_):
 Can (oX ab s)/\(∀ o∈oX ab s,o.from_<=s.from_)/\∀y,hZ (oX ab s) y=(hZ ab y || hZ [s] y):=by
 rcases List.eq_nil_or_concat ab with rfl |⟨o,q,rfl⟩
 ·refine⟨⟨by simp[oX],by simp[oX];exact hs⟩,by simp[oX],λy=>by simp[oX,hZ]⟩
 ·rw[List.concat_eq_append]at*;obtain⟨h1,h2⟩:=hc;rw[pairwise_append]at h1;obtain⟨p1,_,p3⟩:=h1;have hq:DP q:=h2 q (by simp);have hqs:q.from_<=s.from_:=hb q (by simp);rw[agu];by_cases hj:s.from_<=q.to
  ·simp only[hj,decide_true,aj];refine⟨⟨?_,?_⟩,?_,?_⟩
   ·rw[pairwise_append];refine⟨p1,by simp,λa ha b hb'=>?_⟩;rw[aW]at hb';subst hb';exact p3 a ha q (by simp)
   ·intro a ha;rcases bf.1 ha with ha |ha
    ·exact h2 a (by simp[ha])
    ·rw[aW]at ha;subst ha;show q.from_<max q.to s.to;have:q.from_<q.to:=hq;omega
   ·intro a ha;rcases bf.1 ha with ha |ha
    ·exact hb a (by simp[ha])
    ·rw[aW]at ha;subst ha;exact hqs
   ·intro y;rw[EK,EK,Bool.or_assoc];congr 1;simp only[og,JJ,Bool.or_false];rw[jZ];simp only[aK,Bool.or_eq_true,aS];have:q.from_<q.to:=hq;have:s.from_<s.to:=hs;omega
  ·simp only[hj,decide_false,ak];refine⟨⟨?_,?_⟩,?_,?_⟩
   ·rw[pairwise_append];refine⟨?_,by simp,λa ha b hb'=>?_⟩
    ·rw[pairwise_append];exact⟨p1,by simp,p3⟩
    ·rw[aW]at hb';subst hb';rcases bf.1 ha with ha |ha
     ·have:=p3 a ha q (by simp);have:q.from_<q.to:=hq;omega
     ·rw[aW]at ha;subst ha;omega
   ·intro a ha;rcases bf.1 ha with ha |ha
    ·exact h2 a ha
    ·rw[aW]at ha;subst ha;exact hs
   ·intro a ha;rcases bf.1 ha with ha |ha
    ·exact hb a ha
    ·rw[aW]at ha;subst ha;exact Int.le_refl _
   ·intro y;rw[EK]
theorem Qd:∀(l ab:List aO),Can ab->(∀ s∈l,DP s)->l.Pairwise (λ x y=>x.from_<=y.from_)->(∀ o∈ab,∀s∈l,o.from_<=s.from_)->Can (l.foldl oX ab)/\∀y,hZ (l.foldl oX ab) y=(hZ ab y || hZ l y)
 |[],ab,hc,_,_,_=>⟨hc,λy=>by simp[JJ]⟩
 |s::l,ab,hc,hv,hp,hb=>by
  rw[pairwise_cons]at hp;obtain⟨m1,m2,m3⟩:=alz hc (hv s (by simp)) (λ o ho=>hb o ho s (by simp));obtain⟨f1,f2⟩:=Qd l (oX ab s) m1 (λ t ht=>hv t (by simp[ht])) hp.2 (λ o ho t ht=>Int.le_trans (m2 o ho) (hp.1 t ht));refine⟨f1,λy=>?_⟩;rw[foldl_cons,f2,m3,Bool.or_assoc,<- EK];rfl
theorem aec{a:aO}{l:List aO}(h:Can (a::l)):Can l:=⟨(pairwise_cons.1 h.1).2,λs hs=>h.2 s (by simp[hs])⟩
theorem JK{a:aO}{l:List aO}(h:Can (a::l)){y:Int}(hy:hZ l y=true):a.to<y:=by
 obtain⟨s,hs,h1,_⟩:=(NS _ _).1 hy;have:=(pairwise_cons.1 h.1).1 s hs;omega
theorem aas{a:aO}{l:List aO}(h:Can (a::l)){y:Int}(hy:hZ (a::l) y=true):a.from_<=y:=by
 rw[og,Bool.or_eq_true]at hy;rcases hy with hy |hy
 ·simp only[aK,aS]at hy;exact hy.1
 ·have:=JK h hy;have:a.from_<a.to:=h.2 a (by simp);omega
theorem WT:∀{l m:List aO},Can l->Can m->(∀ y,hZ l y=hZ m y)->l=m
 |[],[],_,_,_=>rfl
 |[],b::m,_,hm,h=>by
  have:=h b.from_;have hb:b.from_<b.to:=hm.2 b (by simp);rw[JJ,og]at this;simp[hb]at this
 |a::l,[],hl,_,h=>by
  have:=h a.from_;have ha:a.from_<a.to:=hl.2 a (by simp);rw[JJ,og]at this;simp[ha]at this
 |a::l,b::m,hl,hm,h=>by
  have ha:a.from_<a.to:=hl.2 a (by simp);have hb:b.from_<b.to:=hm.2 b (by simp);have ina:hZ (a::l) a.from_=true:=by rw[og];simp[ha]
  have QP:hZ (b::m) b.from_=true:=by rw[og];simp[hb]
  have e1:a.from_=b.from_:=by
   have h1:=aas hm (by rw[<- h];exact ina);have h2:=aas hl (by rw[h];exact QP);omega
  have nl:∀(c:aO)(k:List aO),Can (c::k)->hZ (c::k) c.to=false:=by
   intro c k hk;cases hc:hZ (c::k) c.to with
   |false=>rfl
   |true=>
    rw[og,Bool.or_eq_true]at hc;rcases hc with hc |hc
    ·simp at hc
    ·have:=JK hk hc;omega
  have e2:a.to=b.to:=by
   rcases Int.lt_trichotomy a.to b.to with hlt |he |hlt
   ·have h1:=nl a l hl;rw[h,og]at h1;simp only[Bool.or_eq_false_iff,Bool.and_eq_false_iff,dK]at h1;omega
   ·exact he
   ·have h1:=nl b m hm;rw[<- h,og]at h1;simp only[Bool.or_eq_false_iff,Bool.and_eq_false_iff,dK]at h1;omega
  have e:a=b:=by cases a;cases b;simp only at e1 e2;rw[e1,e2]
  subst e;rw[WT (aec hl) (aec hm) λy=>?_];have hy:=h y;rw[og,og]at hy;cases h1:hZ l y with
  |true=>
   have:=JK hl h1;have z:(decide (a.from_<=y)&&decide (y<a.to))=false:=(by rw[Bool.and_eq_false_iff,dK,dK];omega);rw[z,h1,Bool.false_or,Bool.false_or]at hy;rw[<- hy]
  |false=>
   cases h2:hZ m y with
   |false=>rfl
   |true=>
    have:=JK hm h2;have z:(decide (a.from_<=y)&&decide (y<a.to))=false:=(by rw[Bool.and_eq_false_iff,dK,dK];omega);rw[z,h1,h2]at hy;simp at hy
def Dd(l:List aO):List aO:=(j6 sY l).foldl oX []
theorem alA{l:List aO}(h:l.Pairwise λx y=>sY y x=false):l.Pairwise λx y=>x.from_<=y.from_:=
 h.imp λ{x y} hxy=>by simp only[sY,dK]at hxy;omega
theorem aat{l:List aO}(h:∀s∈l,DP s):Can (Dd l)/\∀y,hZ (Dd l) y=hZ l y:=by
 have hp:=Ef sY l;obtain⟨h1,h2⟩:=Qd (j6 sY l) [] aie (λ s hs=>h s (hp.mem_iff.1 hs)) (alA (ak1 NR l)) (by simp);exact⟨h1,λy=>by rw[Dd,h2,JJ,Bool.false_or,aeb hp]⟩
theorem ajw{l:List aO}(h:∀s∈l,DP s):(lu sY l).foldl oX []=Dd l:=by
 have hp:=KY NR l;obtain⟨h1,h2⟩:=Qd (lu sY l) [] aie (λ s hs=>h s (hp.mem_iff.1 hs)) (alA (M7 NR l)) (by simp);have⟨h3,h4⟩:=aat h;exact WT h1 h3 λy=>by rw[h2,JJ,Bool.false_or,aeb hp,h4]
theorem aed(l:List aO):(Dd l).length<=l.length:=by
 have:∀(ys ab:List aO),(ys.foldl oX ab).length<=ab.length+ys.length:=by
  intro ys
  induction ys with
  |nil=>intro ab;simp
  |cons y ys ih=>
   intro ab;simp only[foldl_cons,bG];have:=ih (oX ab y);have:=WS ab y;omega
 have h:=this (j6 sY l) [];rw[eH]at h;simpa[Dd]using h
abbrev ej(r:ax):Bool:=decide (0<=r.x0)&&(decide (r.x0<r.x1)&&(decide (r.x1<=1048576)&&(decide (0<=r.y0)&&(decide (r.y0<r.y1)&&decide (r.y1<=1048576)))))
theorem On(a b:Bool):(bif a then some b else some false)=some (a&&b):=by cases a<;>rfl
theorem iT(r:ax):nD r=some (ej r):=by simp only[nD,On]
def jS(l:List ax)(x:Int):List aO:=(l.filter λr=>decide (r.x0<=x)&&decide (x<r.x1)).map λr=>⟨r.y0,r.y1⟩
def dx(l:List ax)(x:Int):List aO:=Dd (jS l x)
theorem Ik(l:List ax)(x:Int):(jS l x).length<=l.length:=by simp only[jS,length_map];exact length_filter_le _ _
theorem yY(l:List ax)(x:Int):(dx l x).length<=l.length:=
 Nat.le_trans (aed _) (Ik l x)
theorem ao6{r:ax}(h:ej r=true):r.y0<r.y1:=by simp only[ej,aK,aS]at h;omega
theorem WU{l:List ax}(h:∀r∈l,ej r=true)(x:Int):∀s∈jS l x,DP s:=by
 intro s hs;simp only[jS,mem_map,mem_filter]at hs;obtain⟨r,⟨hr,_⟩,rfl⟩:=hs;exact ao6 (h r hr)
theorem Qe{l:List ax}{x:Int}(hl:l.length<1099511627776){n:Nat}(hn:l.length<n):iter (tF l x) n ((0:Int),([]:List aO))=some (jS l x):=by
 have:=fD (l:=l) (step:=tF l x) (λ i (s:List aO)=>((i:Int),s)) (λ r s=>bif decide (r.x0<=x)&&decide (x<r.x1)then s++[⟨r.y0,r.y1⟩]else s) (λ s=>s) (λ i s=>s.length<=i)
  (λ i hi s hs=>?_) (λ s hs=>by simp[tF]) n hn [] (aC _)
 ·rw[show ((0:Nat):Int)=0 from rfl]at this;rw[this];congr 1;have gen:∀(ys:List ax)(s:List aO),ys.foldl (λ s r=>bif decide (r.x0<=x)&&decide (x<r.x1)then s++[⟨r.y0,r.y1⟩]else s) s=s++jS ys x:=by
   intro ys
   induction ys with
   |nil=>intro s;simp[jS]
   |cons y ys ih=>
    intro s;simp only[foldl_cons,ih];cases h:(decide (y.x0<=x)&&decide (x<y.x1))with
    |true=>simp[jS,h]
    |false=>simp[jS,h]
  simpa using gen l []
 ·have hi':decide ((i:Int)<(l.length:Int))=true:=by simpa using hi
  have ap:bQ s.length s.length (sub ([(aO.mk l[i].y0 l[i].y1)]:List aO) 0 1).length 1 16=true:=dh (n:=1);simp only[tF,hi',aj,bB hi,af,On];cases h:(decide (l[i].x0<=x)&&decide (x<l[i].x1))with
  |true=>
   simp only[aj,ap,dN,aD,af];refine⟨?_,by simp;omega⟩;rw[bL (by omega)];rfl
  |false=>
   simp only[ak,aD,aj,af];exact⟨by rw[bL (by omega)],by omega⟩
theorem Qf(w1 r2:List aO)(hw:w1.length=r2.length)(hl:r2.length<1099511627776)(hn:r2.length<n):iter (tH w1 r2) n ((0:Int),([]:List aO))=some (r2.foldl oX []):=by
 have:=fD (l:=r2) (step:=tH w1 r2) (λ i (s:List aO)=>((i:Int),s)) (λ r s=>oX s r) (λ s=>s) (λ i s=>s.length<=i)
  (λ i hi s hs=>?_) (λ s hs=>by simp[tH,hw]) n hn [] (aC _)
 ·rw[show ((0:Nat):Int)=0 from rfl]at this;exact this
 ·refine⟨?_,by have:=WS s r2[i];omega⟩;have hi':decide ((i:Int)<(w1.length:Int))=true:=by simp;omega
  have ib:cC (i:Int) w1.length=true:=aU (by omega);have ap:bQ s.length s.length (sub ([r2[i]]:List aO) 0 1).length 1 16=true:=dh (n:=1);simp only[tH,hi',aj,ib,aY hi,af];rcases List.eq_nil_or_concat s with rfl |⟨s0,q,Hp⟩
  ·have d0:decide (((([]:List aO).length:Nat):Int)>0)=false:=(by simp);simp only[d0,ak,af,ap,aj,dN,aD];rw[bL (by omega)];rfl
  ·rw[List.concat_eq_append]at Hp;subst Hp;have d0:decide (((((s0++[q]).length:Nat):Int))>0)=true:=(by simp<;>omega);have AI:(s0++[q]).length=s0.length+1:=(by simp);have wp:i64.wrap ((((s0++[q]).length:Nat):Int) -1)=(s0.length:Int):=(by rw[mO (by simp) (by omega),AI];rfl);have QQ:cC (s0.length:Int) (s0++[q]).length=true:=aU (by omega);have g:bo (s0++[q]) (((0:Nat):Int)+(s0.length:Int))=some q:=(by rw[Eb];simp);have z:(((0:Nat):Int)+(s0.length:Int)).toNat=s0.length:=(by simp);have st:(s0++[q]).set s0.length (aO.mk q.from_ (max q.to r2[i].to))=s0++[⟨q.from_,max q.to r2[i].to⟩]:=(by simp);have m:oX (s0++[q]) r2[i]=bif decide (r2[i].from_<=q.to)then s0++[⟨q.from_,max q.to r2[i].to⟩]else s0++[q]++[r2[i]]:=(by simp[oX]);simp only[d0,aj,wp,QQ,g,af,m,z,st];cases decide (r2[i].from_<=q.to)with
   |true=>
    have e:az (s0++[q]).length (s0++[(⟨q.from_,max q.to r2[i].to⟩:aO)]).length=true:=(by simp);simp only[aj,e,af,aD];rw[bL (by omega)]
   |false=>
    simp only[ak,ap,aj,dN,aD,af];rw[bL (by omega)];rfl
theorem abR{l:List ax}{x:Int}(hv:∀r∈l,ej r=true)(hl:l.length<1099511627776)(hn:l.length<n):JC n l x=some (dx l x):=by
 have h1:=Ik l x;have h2:(lu sY (jS l x)).length=(jS l x).length:=xI NR _;unfold JC;simp only[length_nil,aD,aj,Qe (x:=x) (l:=l) (by omega) (n:=n) (by omega),af];rw[JX (λ a b=>if a.from_<b.from_ then -1 else if b.from_<a.from_ then 1 else 0) (λ a b=>by show xL a b=_;unfold xL;rw[kE];rfl) (λ a b=>by
  by_cases h1:a.from_<b.from_
  ·simp[h1]
  ·by_cases h2:b.from_<a.from_<;>simp[h1,h2]) (by omega) (by omega)]
 simp only[af];rw[Qf _ _ h2.symm (by omega) (by omega)];simp only[af,bZ,aD,aj];rw[ajw (WU hv x)];rfl
def gV(l:List ax):List Int:=E3 (l.flatMap λr=>[r.x0,r.x1])
def jd{α:Type}(f:Int->Int->α):List Int->List α
 |a::b::l=>f a b::jd f (b::l)
 |_=>[]
def bD(l:List ax):List bW:=jd (λ a b=>⟨a,b,dx l a⟩) (gV l)
theorem rT{α:Type}(f:Int->Int->α):∀(l:List Int),(jd f l).length=l.length -1/\∀i (h:i+1<l.length) (h':i<(jd f l).length),(jd f l)[i]=f l[i] l[i+1]
 |[]=>⟨rfl,λi h=>by simp at h⟩
 |[a]=>⟨rfl,λi h=>by simp at h⟩
 |a::b::l=>by
  have⟨h1,h2⟩:=rT f (b::l);refine⟨by simp only[jd,bG,h1];simp,λi h h'=>?_⟩;cases i with
  |zero=>rfl
  |succ i=>
   simp only[jd,List.getElem_cons_succ];exact h2 i (by simpa using h) _
theorem wO(l:List ax):(l.flatMap λr=>[r.x0,r.x1]).length=2*l.length:=by
 induction l with
 |nil=>rfl
 |cons x l ih=>simp only[List.flatMap_cons,dL,ih,bG,length_nil];omega
theorem rC(l:List Int):(gH l).length<=l.length:=by
 match l with
 |[]=>simp[gH]
 |[x]=>simp[gH]
 |x::y::l=>
  have:=rC (y::l);simp only[gH];cases x==y<;>simp at* <;>omega
theorem KG(l:List ax):(gV l).length<=2*l.length:=by
 have h:=rC (j6 (λ a b=>decide (a<b)) (l.flatMap λr=>[r.x0,r.x1]));rw[eH,wO]at h;exact h
theorem Qg{l:List ax}(hl:l.length<10995116277)(hn:l.length<n):iter (tJ l) n ((0:Int),([]:List Int))=some (l.flatMap λr=>[r.x0,r.x1]):=by
 have:=fD (l:=l) (step:=tJ l) (λ i (s:List Int)=>((i:Int),s)) (λ r s=>s++[r.x0,r.x1]) (λ s=>s) (λ i s=>s.length<=2*i)
  (λ i hi s hs=>?_) (λ s hs=>by simp[tJ]) n hn [] (aC _)
 ·rw[show ((0:Nat):Int)=0 from rfl]at this;rw[this];have gen:∀(ys:List ax)(s:List Int),ys.foldl (λ s r=>s++[r.x0,r.x1]) s=s++ys.flatMap λr=>[r.x0,r.x1]:=by
   intro ys
   induction ys with
   |nil=>intro s;simp
   |cons y ys ih=>intro s;simp[ih]
  congr 1;simpa using gen l []
 ·have hi':decide ((i:Int)<(l.length:Int))=true:=by simpa using hi
  have ap:bQ s.length s.length (sub ([l[i].x0,l[i].x1]:List Int) 0 2).length 2 8=true:=dh (n:=2);simp only[tJ,hi',aj,aU hi,aY hi,af,ap,dN,aD];refine⟨?_,by simp;omega⟩;rw[bL (by omega)];rfl
theorem xY{ls:List (List ax)}(hv:∀r∈ls.flatten,ej r=true)(hl:ls.flatten.length<10995116277)(hls:ls.length<1099511627776)(hn:2*ls.flatten.length<n)(hn2:ls.length<n):oq n ls=some (bD ls.flatten):=by
 unfold oq;rw[NQ (by omega) hls hn2];generalize ls.flatten=l at*;have he:=KG l;simp only[af,length_nil,aD,aj,Qg (l:=l) (n:=n) (by omega) (by omega)];rw[o7 (by rw[wO];omega) (by rw[wO];omega)];simp only[af,eH,aD,aj];rw[uq (by rw[eH,wO];omega) (by rw[eH,wO];omega)];simp only[af];have hE:gH (j6 oc (l.flatMap λr=>[r.x0,r.x1]))=gV l:=rfl;rw[hE];obtain⟨p1,p2⟩:=rT (λ a b=>(⟨a,b,dx l a⟩:bW)) (gV l);have key:iter (tK n l ((),gV l)) n ((1:Int),([]:List bW))=some (bD l):=by
  have:=mF (step:=tK n l ((),gV l)) (λ i=>(((i+1:Nat):Int),(bD l).take i)) (bD l).length (bD l) (λ i hi=>?_) ?_ n (by unfold bD;omega)
  ·simpa using this
  ·have hi2:i+1<(gV l).length:=(by unfold bD at hi;omega);have d:decide (((i+1:Nat):Int)<(((gV l).length:Nat):Int))=true:=(by simp;omega);have wp:i64.wrap (((i+1:Nat):Int) -1)=(i:Int):=(by rw[mO (by omega) (by omega)];rfl);have ap:bQ ((bD l).take i).length ((bD l).take i).length (sub ([(bW.mk ((gV l)[i]'(by omega)) (gV l)[i+1] (dx l ((gV l)[i]'(by omega))))]:List bW) 0 1).length 1 40=true:=by
    refine dh (n:=1) ?_ ?_
    ·rw[length_take];unfold bD;omega
    ·rw[length_take];unfold bD;simp only[maxLen];omega
   have tk:(bD l).take (i+1)=(bD l).take i++[⟨(gV l)[i]'(by omega),(gV l)[i+1],dx l ((gV l)[i]'(by omega))⟩]:=by
    rw[gF hi];congr 2;exact p2 i hi2 hi
   simp only[tK,d,aj,wp,aU (show i<(gV l).length by omega),aY (show i<(gV l).length by omega),af,aU hi2,aY hi2,bZ,aD,abR (l:=l) (n:=n) hv (by omega) (by omega),ap,dN];rw[bL (by omega),tk];rfl
  ·have d:decide ((((bD l).length+1:Nat):Int)<(((gV l).length:Nat):Int))=false:=(by unfold bD;simp;omega);simp only[tK,d,ak,List.take_length,aD,aj]
 rw[key];simp only[af,bZ,aD,aj]
def EL(x0 x1:Int)(c:List aO):List ax:=c.map λq=>⟨x0,q.from_,x1,q.to⟩
def C7(x0 x1:Int)(c:List aO):List bW->List ax
 |[]=>EL x0 x1 c
 |s::l=>if s.column=c then C7 x0 s.x1 c l else EL x0 x1 c++C7 s.x0 s.x1 s.column l
def nN:List bW->List ax
 |[]=>[]
 |s::l=>C7 s.x0 s.x1 s.column l
theorem aau(x0:Int)(c:List aO):∀(l:List bW)(x1:Int)(k:Nat)(hk:k<=l.length),(∀ j (hj:j<k),(l[j]'(by omega)).column=c)->(∀ h:k<l.length,l[k].column≠c)->
 C7 x0 x1 c l=EL x0 (if h:0<k then(l[k -1]'(by omega)).x1 else x1) c++nN (l.drop k)
 |l,x1,0,_,_,h2=>by
  cases l with
  |nil=>simp[C7,nN]
  |cons s l=>
   have:=h2 (by simp);simp only[List.getElem_cons_zero]at this;simp[C7,nN,this]
 |[],x1,k+1,hk,_,_=>by simp at hk
 |s::l,x1,k+1,hk,h1,h2=>by
  have e0:=h1 0 (by omega);simp only[List.getElem_cons_zero]at e0;simp only[C7,e0,if_true];rw[aau x0 c l s.x1 k (by simpa using hk) (λ j hj=>by have:=h1 (j+1) (by omega);simpa using this) (λ h=>by have:=h2 (by simpa using h);simpa using this)];simp only[List.drop_succ_cons];congr 2;by_cases hk0:0<k
  ·simp only[hk0,dite_true,Nat.zero_lt_succ,Nat.add_sub_cancel];obtain⟨m,rfl⟩:∃m,k=m+1:=⟨k -1,by omega⟩;simp
  ·have:k=0:=(by omega);subst this;simp
theorem Sy{l:List bW}{i k:Nat}(hi:i<l.length)(hk1:0<k)(hk:k<=l.length)(hl:l.length<10995116277)(x3:bW)(ab:List ax)(ho:ab.length<1099511627776)(hc:x3.column.length<1099511627776)(hn:x3.column.length<n):
 iter (wD l (i:Int) (k:Int) x3) n ((0:Int),ab)=some (ab++EL l[i].x0 (l[k -1]'(by omega)).x1 x3.column):=by
 have:=fD (l:=x3.column) (step:=wD l (i:Int) (k:Int) x3) (λ j (s:List ax)=>((j:Int),s)) (λ q s=>s++[⟨l[i].x0,q.from_,(l[k -1]'(by omega)).x1,q.to⟩]) (λ s=>s) (λ j s=>s.length<=ab.length+j)
  (λ j hj s hs=>?_) (λ s hs=>by simp[wD]) n hn ab (aC _)
 ·rw[show ((0:Nat):Int)=0 from rfl]at this;rw[this];have gen:∀(ys:List aO)(s:List ax),ys.foldl (λ s q=>s++[⟨l[i].x0,q.from_,(l[k -1]'(by omega)).x1,q.to⟩]) s=s++EL l[i].x0 (l[k -1]'(by omega)).x1 ys:=by
   intro ys
   induction ys with
   |nil=>intro s;simp[EL]
   |cons y ys ih=>intro s;simp only[foldl_cons,ih];simp[EL]
  rw[gen]
 ·have hj':decide ((j:Int)<(x3.column.length:Int))=true:=by simpa using hj
  have wp:i64.wrap ((k:Int) -1)=((k -1:Nat):Int):=mO hk1 (by omega);have ap:bQ s.length s.length (sub ([(ax.mk l[i].x0 (x3.column[j]).from_ (l[k -1]'(by omega)).x1 (x3.column[j]).to)]:List ax) 0 1).length 1 32=true:=dh (n:=1);simp only[wD,hj',aj,bB hj,bB hi,wp,bB (show k -1<l.length by omega),af,ap,dN,aD];refine⟨?_,by simp;omega⟩;rw[bL (by omega)];rfl
theorem RP{l:List bW}{b:Nat}(hb:b<=100000)(hl:l.length<=100000)(hc:∀s∈l,s.column.length<=b)(hn:b<n)(hn2:l.length<n):H9 n l=some (nN l):=by
 unfold H9;simp only[length_nil,aD,aj];have main:∀(m i:Nat)(ab:List ax)(k:Nat),i+m=l.length->m<k->ab.length<=i*b->iter (wE n l) k ((i:Int),ab)=some (ab++nN (l.drop i)):=by
  intro m
  induction m using Nat.strongRecOn with
  |ind m ih=>
   intro i ab k him hk ho;obtain⟨k,rfl⟩:∃j,k=j+1:=⟨k -1,by omega⟩;by_cases hm:m=0
   ·subst hm;have:i=l.length:=(by omega);subst this;refine fF ?_;simp[wE,nN]
   ·have hi:i<l.length:=(by omega);have di:decide ((i:Int)<(l.length:Int))=true:=(by simpa using hi);obtain⟨q,hq1,hq2,hq3,hq4⟩:∃q,i<q/\q<=l.length/\(∀ j,i<j->j<q->∀h:j<l.length,l[j].column=l[i].column)/\(∀ h:q<l.length,l[q].column≠l[i].column):=by
     rcases KC (λ j=>if h:j<l.length then decide (l[j].column≠l[i].column)else false) (i+1) l.length with ⟨q,h1,h2,h3,h4⟩ |h
     ·simp only[h2,dite_true,aS]at h3;refine⟨q,by omega,by omega,λj hj1 hj2 hj=>?_,λ_=>h3⟩;have:=h4 j (by omega) hj2;simp only[hj,dite_true,dK,ne_eq,Decidable.not_not]at this;exact this
     ·refine⟨l.length,hi,aC _,λj hj1 hj2 hj=>?_,λh=>by omega⟩;have:=h j (by omega) hj;simp only[hj,dite_true,dK,ne_eq,Decidable.not_not]at this;exact this
    have cl:∀j (hj:j<l.length),l[j].column.length<=b:=λj hj=>hc _ (getElem_mem hj);have r2:iter (sF n l (i:Int)) n (i64.wrap ((i:Int)+1))=some (q:Int):=by
     rw[bL (by omega)];have:=mF (step:=sF n l (i:Int)) (λ j=>((i+1+j:Nat):Int)) (q -(i+1)) (q:Int) (λ j hj=>?_) ?_ n (by omega)
     ·simpa using this
     ·have hjl:i+1+j<l.length:=(by omega);have dj:decide (((i+1+j:Nat):Int)<(l.length:Int))=true:=(by simp;omega);have hcc:=cl (i+1+j) hjl;simp only[sF,dj,aj,bB hjl,bB hi,af];rw[CR (by omega) (by omega),hq3 (i+1+j) (by omega) (by omega) hjl];simp only[decide_true,af,aj];rw[bL (by omega)];rfl
     ·rw[show i+1+(q -(i+1))=q by omega];by_cases yq:q<l.length
      ·have dj:decide ((q:Int)<(l.length:Int))=true:=(by simpa using yq);have hcc:=cl q yq;simp only[sF,dj,aj,bB yq,bB hi,af];rw[CR (by omega) (by omega)];simp[hq4 yq]
      ·have dj:decide ((q:Int)<(l.length:Int))=false:=(by simp;omega);simp only[sF,dj,ak,af]
    have ob:i*b<=100000*100000:=Nat.mul_le_mul (by omega) hb;have hci:=cl i hi;have r3:=Sy (n:=n) hi (show 0<q by omega) hq2 (by omega) l[i] ab (by omega) (by omega) (by omega);have step:wE n l ((i:Int),ab)=some (.inl ((q:Int),ab++EL l[i].x0 (l[q -1]'(by omega)).x1 l[i].column)):=(by simp only[wE,di,aj,r2,bB hi,af,aD,r3]);rw[iH step,ih (l.length -q) (by omega) q _ k (by omega) (by omega) (by
     rw[dL,EL,length_map];have:(i+1)*b<=q*b:=Nat.mul_le_mul_right _ (by omega);rw[Nat.add_mul]at this;omega)]
    rw[aM];congr 2
    conv=>rhs;rw[List.drop_eq_getElem_cons hi]
    simp only[nN];rw[aau l[i].x0 l[i].column (l.drop (i+1)) l[i].x1 (q -(i+1)) (by rw[length_drop];omega) (λ j hj=>by
     rw[getElem_drop];exact hq3 _ (by omega) (by omega) (by omega)) (λ h=>by
     rw[length_drop]at h;rw[getElem_drop];have:=hq4 (by omega);have hqq:i+1+(q -(i+1))=q:=(by omega);simp only[hqq];exact this)]
    rw[List.drop_drop,show i+1+(q -(i+1))=q by omega];congr 2;by_cases h0:0<q -(i+1)
    ·simp only[h0,dite_true,getElem_drop];congr 2;omega
    ·simp only[h0,dite_false];have:q -1=i:=(by omega);congr 2
 have:=main l.length 0 [] n (by omega) (by omega) (by simp);simp only[Int.natCast_zero,bR,List.drop_zero]at this;rw[this];simp
def rS(l:List ax):List ax×Int:=
 if l.all ej then(if l.length>400 then([],6)else if (nN (bD l)).length>200 then([],6)else(nN (bD l),0))else([],1)
def cR(l:List ax):Bool:=decide ((rS l).2=0)&&decide ((rS l).1=l)
theorem aee{l:List ax}{s:bW}(h:s∈bD l):s.column.length<=l.length:=by
 obtain⟨i,hi,rfl⟩:=List.getElem_of_mem h;obtain⟨p1,p2⟩:=rT (λ a b=>(⟨a,b,dx l a⟩:bW)) (gV l);have:(bD l)[i]=⟨(gV l)[i]'(by unfold bD at hi;omega),(gV l)[i+1]'(by unfold bD at hi;omega),dx l ((gV l)[i]'(by unfold bD at hi;omega))⟩:=p2 i (by unfold bD at hi;omega) hi;rw[this];exact yY l _
theorem uw(l:List ax):(bD l).length<=2*l.length:=by
 obtain⟨p1,_⟩:=rT (λ a b=>(⟨a,b,dx l a⟩:bW)) (gV l);have:=KG l;unfold bD;omega
theorem alB{l:List ax}(hl:l.length<1099511627776)(hl2:l.length<n)(hn:1000<=n):M1 n l=some (rS l):=by
 unfold M1;have h1:=pI (l:=l) (step:=Ny l) (λ i=>(i:Int)) (λ r=>!ej r) () (λ _=>(([]:List ax),(1:Int))) (λ i hi=>?_) ?_ n (by omega)
 ·rw[show ((0:Nat):Int)=0 from rfl]at h1;rw[h1];have h2:=pJ (λ r=>!ej r) l;cases hf:nT (λ r=>!ej r) l with
  |some i=>
   rw[hf]at h2;have:l.all ej=false:=by
    rw[<- Bool.not_eq_true,all_eq_true];intro hall;have h3:=h2.symm;simp only[Option.isSome_some,any_eq_true]at h3;obtain⟨x,hx,hx2⟩:=h3;rw[hall x hx]at hx2;cases hx2
   simp[rS,this]
  |none=>
   rw[hf]at h2;have:l.all ej=true:=by
    rw[all_eq_true];intro x hx;cases h:ej x with
    |true=>rfl
    |false=>
     have:l.any (λ r=>!ej r)=true:=any_eq_true.2 ⟨x,hx,by rw[h];rfl⟩;rw[this]at h2;cases h2
   have hv:∀r∈l,ej r=true:=all_eq_true.1 this;by_cases xj:l.length>400
   ·have d4:decide ((l.length:Int)>400)=true:=(by simp;omega);simp only[d9,d4,aj,rS,this,if_true,aX xj]
   have d4:decide ((l.length:Int)>400)=false:=(by simp;omega);have ls:=uw l;simp only[d9,d4,ak];have fl:[l].flatten=l:=(by simp);rw[show (sub ([l]:List (List ax)) 0 1)=[l]from rfl,xY (ls:=[l]) (by rw[fl];exact hv) (by rw[fl];omega) (by simp) (by rw[fl];omega) (by simp;omega),fl];simp only[length_singleton,aD,aj,af,bZ];rw[RP (b:=400) (by omega) (by omega) (λ s hs=>Nat.le_trans (aee hs) (by omega)) (by omega) (by omega)];simp only[af,bZ,aD,aj,yS,rS,this,if_true,aQ xj];by_cases ra:(nN (bD l)).length>200
   ·have:decide (((nN (bD l)).length:Int)>200)=true:=(by simp;omega);simp only[this,aj,af,ra,if_true]
   ·have:decide (((nN (bD l)).length:Int)>200)=false:=(by simp;omega);simp only[this,ak,af,ra,if_false]
 ·have hi':decide ((i:Int)<(l.length:Int))=true:=by simpa using hi
  simp only[Ny,hi',aj,bB hi,af,iT];cases ej l[i]with
  |false=>rfl
  |true=>simp only[Bool.not_true,ak];rw[bL (by omega)]
 ·simp[Ny]
theorem lV{l:List ax}(hl:l.length<1099511627776)(hl2:l.length<n)(hn:1000<=n):nU n l=some (cR l):=by
 unfold nU cR;rw[alB hl hl2 hn];simp only[af];by_cases h:(rS l).2=0
 ·have e:((rS l).2==0)=true:=by simp[h]
  have lo:(rS l).1.length<=200:=by
   unfold rS;split
   ·split
    ·simp
    ·split
     ·simp
     ·simp;omega
   ·simp
  by_cases hlen:(rS l).1.length<n
  ·simp only[e,aj,h,decide_true,Bool.true_and];rw[CQ (by omega) hlen];rfl
  ·have:(rS l).1.length≠l.length:=(by omega);have hne:(rS l).1≠l:=λe=>this (by rw[e]);simp only[e,aj,h,decide_true,Bool.true_and];unfold ow;have hb:(((rS l).1.length:Int) !=(l.length:Int))=true:=(by simp;omega);rw[hb];simp[hne]
 ·have e:((rS l).2==0)=false:=by simp[h]
  simp[e,h]
theorem NT{α:Type}(c:Bool)(a b:α):(bif c then some a else some b)=some (bif c then a else b):=by cases c<;>rfl
theorem aav(i n:Nat):Int.tmod (i:Int) (n:Int)=((i%n:Nat):Int):=by rw[Int.tmod_eq_emod_of_nonneg (by omega)];omega
theorem bO{i n:Nat}(h:i<n):decide ((i:Int)<(n:Int))=true:=by simpa using h
theorem bX(n:Nat):decide ((n:Int)<(n:Int))=false:=by simp
theorem aif{k b:Nat}(h:k*b<=140737488355328)(h2:k<=maxLen):zG (k:Int) b=true:=by
 have e:((k:Int)).toNat=k:=by omega
 simp only[zG,aK,aS,e];exact⟨⟨by omega,h⟩,h2⟩
def pH(p:List dQ)(i:Nat):dQ:=p.getD i ⟨0,0⟩
def je(p:List dQ)(i:Nat):jy:=⟨(pH p i).x,(pH p i).y,(pH p ((i+1)%p.length)).x,(pH p ((i+1)%p.length)).y⟩
def gq(p:List dQ):List jy:=(List.range p.length).map (je p)
theorem UB{p:List dQ}{i:Nat}(h:i<p.length):pH p i=p[i]:=by simp[pH,h]
theorem dY(p:List dQ):(gq p).length=p.length:=by simp[gq]
theorem yZ{p:List dQ}{i:Nat}(h:i<(gq p).length):(gq p)[i]=je p i:=by simp[gq]
theorem alC{α:Type}(A B:List α)(z x:α):(A++z::B).set A.length x=A++x::B:=by rw[List.set_append_right _ _ (aC _),Nat.sub_self];rfl
theorem Aw{p:List dQ}(hl:p.length<=100000)(hn:p.length<n):o6 n p=some (gq p):=by
 unfold o6;have mk:zG (p.length:Int) 32=true:=aif (by omega) (by show p.length<=2 ^ 63 -1;omega);have main:=mF (step:=oK p) (λ i=>((i:Int),(List.range i).map (je p)++List.replicate (p.length -i) (jy.mk 0 0 0 0))) p.length (gq p) (λ i hi=>?_) ?_ n hn
 ·have z:((p.length:Int)).toNat=p.length:=by omega
  simp only[List.range_zero,List.map_nil,bR,Nat.sub_zero]at main;have d1:decide ((p.length:Int)<=(p.length:Int))=true:=by simp
  have d2:decide ((0:Int)<=(p.length:Int))=true:=by simp
  rw[mk,d1,d2,z];simp only[Bool.and_self,aj];rw[show ((0:Nat):Int)=0 from rfl]at main;rw[main];simp only[af];have e:sub (gq p) 0 p.length=gq p:=by rw[<- dY p];exact bZ _
  rw[e,dY];simp
 ·have nz:((p.length:Int) !=0)=true:=by simp;intro h;rw[h]at hi;simp at hi
  have md:(i+1)%p.length<p.length:=Nat.mod_lt _ (by omega);have w:i64.wrap ((i:Int)+1)=((i+1:Nat):Int):=bL (by omega);have z:((p.length:Int)).toNat=p.length:=by omega
  have rp:List.replicate (p.length -i) (jy.mk 0 0 0 0)=jy.mk 0 0 0 0::List.replicate (p.length -(i+1)) (jy.mk 0 0 0 0):=by rw[show p.length -i=(p.length -(i+1))+1 by omega,List.replicate_succ]
  have la:((List.range i).map (je p)).length=i:=by simp
  have g:bo ((List.range i).map (je p)++List.replicate (p.length -i) (jy.mk 0 0 0 0)) (((0:Nat):Int)+(i:Int))=some (jy.mk 0 0 0 0):=by rw[Eb,jB (by omega),la,rp,Nat.sub_self];rfl
  have z2:(((0:Nat):Int)+(i:Int)).toNat=i:=by omega
  have st:((List.range i).map (je p)++List.replicate (p.length -i) (jy.mk 0 0 0 0)).set i (je p i)=(List.range (i+1)).map (je p)++List.replicate (p.length -(i+1)) (jy.mk 0 0 0 0):=by
   rw[rp];have:=alC ((List.range i).map (je p)) (List.replicate (p.length -(i+1)) (jy.mk 0 0 0 0)) (jy.mk 0 0 0 0) (je p i);rw[la]at this;rw[this,List.range_succ,map_append,aM];rfl
  simp only[oK,bO hi,aj,bB hi,af,nz,w,aav,bB md,z,aU hi,g,z2];rw[<- UB hi,<- UB md];rw[show jy.mk (pH p i).x (pH p i).y (pH p ((i+1)%p.length)).x (pH p ((i+1)%p.length)).y=je p i from rfl,st]
 ·simp only[oK,bX,ak,Nat.sub_self,List.replicate_zero,append_nil];rfl
def UC(a:dQ):Bool:=decide (0<=a.x)&&(decide (a.x<=1048576)&&(decide (0<=a.y)&&decide (a.y<=1048576)))
def ua(s:jy):Bool:=s.ly==s.mf
def Ok(s t:jy):Bool:=decide (max (min s.ly s.mf) (min t.ly t.mf)<=min (max s.ly s.mf) (max t.ly t.mf))&&decide (max (min s.pC s.t7) (min t.pC t.t7)<=min (max s.pC s.t7) (max t.pC t.t7))
def UD(a b:dQ):Bool:=decide (a.x<b.x) || (a.x==b.x&&decide (a.y<b.y))
theorem NU(a:dQ):tQ a=some (UC a):=by simp only[tQ,On,UC]
theorem CU(s t:jy):lJ s t=some (Ok s t):=by simp only[lJ,On,Ok]
theorem mW(s:jy):gI s=some (ua s):=rfl
theorem WV(a b:Int)(hn:3<=n):rM n [a,b]=some (if a=0 then b else a):=by
 obtain⟨m,rfl⟩:∃m,n=m+3:=⟨n -3,by omega⟩;have w1:i64.wrap ((0:Int)+1)=1:=by decide
 have w2:i64.wrap ((1:Int)+1)=2:=by decide
 by_cases ha:a=0
 ·by_cases hb:b=0
  ·subst ha;subst hb;simp only[rM,CB,vH,w1,w2];rfl
  ·have hb':(b !=0)=true:=(by simpa using hb);subst ha;simp only[rM,CB,vH,w1];simp[bo,hb',dw]
 ·have ha':(a !=0)=true:=by simpa using ha
  simp only[rM,CB,vH];simp[bo,ha',dw,ha]
theorem K7(a b:dQ)(hn:3<=n):∃r,qY n a b=some r/\decide (r>=0)=!UD a b:=by
 unfold qY;rw[kE,kE];simp only[af];rw[show ∀u v:Int,sub [u,v] 0 2=[u,v]from λ_ _=>rfl,WV _ _ hn];refine⟨_,rfl,?_⟩;unfold UD;by_cases h1:a.x<b.x
 ·simp[h1]
 ·by_cases h2:b.x<a.x
  ·have h3:¬a.x=b.x:=(by omega);simp[h1,h2,h3]
  ·have h3:a.x=b.x:=(by omega);by_cases h4:a.y<b.y
   ·simp[h3,h4]
   ·by_cases h5:b.y<a.y<;>simp[h3,h4,h5]
def IP(p:List dQ)(i:Nat):Bool:=
 (!UC (pH p i) || ((((je p i).ly==(je p i).mf)==((je p i).pC==(je p i).t7)) || (ua (je p i)==ua (je p ((i+1)%p.length))))) || (decide (0<i)&&!UD (pH p 0) (pH p i))
def Sz(p:List dQ)(i k:Nat):Bool:=decide (i+p.length -k>1)&&Ok (je p i) (je p k)
def Qh(p:List dQ):Bool:=
 decide (4<=p.length)&&(decide (p.length<=60)&&(!((List.range p.length).any (IP p))&&(!((List.range p.length).any λi=>(List.range p.length).any λk=>decide (i+2<=k)&&Sz p i k)&&!ua (je p 0))))
def W7(l:List ax)(x y:Int):Bool:=l.any λr=>(decide (r.x0<=x)&&decide (x<r.x1))&&(decide (r.y0<=y)&&decide (y<r.y1))
theorem aef(l:List ax)(x y:Int):hZ (jS l x) y=W7 l x y:=by
 induction l with
 |nil=>rfl
 |cons r l ih=>
  unfold jS W7 at*;rw[List.filter_cons,List.any_cons,<- ih];cases h:(decide (r.x0<=x)&&decide (x<r.x1))with
  |true=>simp only[if_true,aF,Bool.true_and];rw[og]
  |false=>simp
theorem NV{l:List ax}(h:∀r∈l,ej r=true)(x:Int):Can (dx l x)/\∀y,hZ (dx l x) y=W7 l x y:=by
 have⟨h1,h2⟩:=aat (WU h x);exact⟨h1,λy=>by rw[dx,h2,aef]⟩
def WW:List bW->Prop
 |[]=>True
 |[s]=>s.x0<s.x1
 |s::t::l=>s.x0<s.x1/\s.x1=t.x0/\WW (t::l)
def Il:List bW->Int->List aO
 |[],_=>[]
 |s::l,x=>bif decide (s.x0<=x)&&decide (x<s.x1)then s.column else Il l x
theorem y5(s:bW)(l:List bW)(x:Int):Il (s::l) x=bif decide (s.x0<=x)&&decide (x<s.x1)then s.column else Il l x:=rfl
def Runs:List bW->Prop
 |[]=>True
 |[s]=>s.x0<s.x1/\s.column≠[]
 |s::t::l=>(s.x0<s.x1/\s.column≠[])/\s.x1<=t.x0/\(s.x1=t.x0->s.column≠t.column)/\Runs (t::l)
theorem ang{s:bW}{l:List bW}{x:Int}(h1:s.x0<=x)(h2:x<s.x1):Il (s::l) x=s.column:=by rw[y5,show(decide (s.x0<=x)&&decide (x<s.x1))=true by simp[h1,h2]];rfl
theorem p8{α:Type}(f:Int->Int->α)(a b:Int)(l:List Int):jd f (a::b::l)=f a b::jd f (b::l):=rfl
theorem NW(g:Int->List aO):∀(es:List Int),es.Pairwise (· < ·)->WW (jd (λ a b=>(⟨a,b,g a⟩:bW)) es)
 |[],_=>trivial
 |[_],_=>trivial
 |[a,b],h=>by
  have h1:=(pairwise_cons.1 h).1 b (by simp);exact h1
 |a::b::c::l,h=>by
  have h1:=(pairwise_cons.1 h).1 b (by simp);exact⟨h1,rfl,NW g (b::c::l) (pairwise_cons.1 h).2⟩
theorem Im(g:Int->List aO)(x:Int):∀(es:List Int),(∀ e∈es,x<e)->Il (jd (λ a b=>(⟨a,b,g a⟩:bW)) es) x=[]
 |[],_=>rfl
 |[_],_=>rfl
 |a::b::l,h=>by
  have ha:=h a (by simp);rw[p8,y5,show(decide (a<=x)&&decide (x<b))=false by rw[Bool.and_eq_false_iff,dK];left;omega,ak];exact Im g x (b::l) λe he=>h e (eG _ he)
theorem Io(g:Int->List aO)(x:Int):∀(l:List Int)(a:Int),(a::l).Pairwise (· < ·)->a<=x->
 (∀ e∈a::l,e<=x->(∀ e'∈a::l,e'<=e\/x<e')->g e=g x)->((∀ e∈a::l,e<=x)->g x=[])->Il (jd (λ a b=>(⟨a,b,g a⟩:bW)) (a::l)) x=g x
 |[],a,_,hx,_,h2=>(h2 (λ e he=>by have:e=a:=by simpa using he
                                  subst this;exact hx)).symm
 |b::l,a,hp,hx,h1,h2=>by
  have hab:=(pairwise_cons.1 hp).1 b (by simp);rw[p8,y5];by_cases hb:x<b
  ·rw[show (decide (a<=x)&&decide (x<b))=true by simp[hx,hb],aj];refine h1 a (by simp) hx λe he=>?_;rcases aN.1 he with rfl |he
   ·exact .inl (Int.le_refl _)
   ·right;rcases aN.1 he with rfl |he
    ·exact hb
    ·have:=(pairwise_cons.1 (pairwise_cons.1 hp).2).1 e he;omega
  ·rw[show (decide (a<=x)&&decide (x<b))=false by simp[hb],ak];refine Io g x l b (pairwise_cons.1 hp).2 (by omega) (λ e he hex hc=>h1 e (eG _ he) hex λe' he'=>?_) λhall=>h2 λe he=>?_
   ·rcases aN.1 he' with rfl |he'
    ·left;have:=(pairwise_cons.1 hp).1 e he;omega
    ·exact hc e' he'
   ·rcases aN.1 he with rfl |he
    ·exact hx
    ·exact hall e he
theorem aeg(g:Int->List aO)(es:List Int)(hp:es.Pairwise (· < ·))(x:Int)
 (h1:∀e∈es,e<=x->(∀ e'∈es,e'<=e\/x<e')->g e=g x) (h2:(∀ e∈es,e<=x)->g x=[]) (h3:(∀ e∈es,x<e)->g x=[]):Il (jd (λ a b=>(⟨a,b,g a⟩:bW)) es) x=g x:=by
 cases es with
 |nil=>exact(h3 (by simp)).symm
 |cons a l=>
  by_cases hx:a<=x
  ·exact Io g x l a hp hx h1 h2
  ·have hall:∀e∈a::l,x<e:=by
    intro e he;rcases aN.1 he with rfl |he
    ·omega
    ·have:=(pairwise_cons.1 hp).1 e he;omega
   rw[Im g x _ hall,h3 hall]
theorem WX{l:List ax}{z:Int}:z∈gV l↔∃r∈l,z=r.x0\/z=r.x1:=by
 rw[gV,akY,List.mem_flatMap];simp
theorem KH(l:List ax):(gV l).Pairwise (· < ·):=adN _
theorem YT{l:List ax}{es:List Int}(hes:∀r∈l,r.x0∈es/\r.x1∈es){e x:Int}(hex:e<=x)(hc:∀e'∈es,e'<=e\/x<e'):jS l e=jS l x:=by
 unfold jS;congr 1;refine List.filter_congr λr hr=>?_;have⟨h0,h1⟩:=hes r hr;have:=hc _ h0;have:=hc _ h1;rw[jZ,aK,aK,aS,aS,aS,aS];omega
theorem NY{l:List ax}{x:Int}(h:∀r∈l,x<r.x0\/r.x1<=x):jS l x=[]:=by
 unfold jS;rw[List.map_eq_nil_iff,List.filter_eq_nil_iff];intro r hr;have:=h r hr;rw[aK,aS,aS];omega
theorem Ip(l:List ax):WW (bD l):=NW _ _ (KH l)
theorem KI(l:List ax)(x:Int):Il (bD l) x=dx l x:=by
 have hes:∀r∈l,r.x0∈gV l/\r.x1∈gV l:=λr hr=>⟨WX.2 ⟨r,hr,.inl rfl⟩,WX.2 ⟨r,hr,.inr rfl⟩⟩;refine aeg (dx l) (gV l) (KH l) x (λ e _ hex hc=>?_) (λ hall=>?_) (λ hall=>?_)
 ·unfold dx;rw[YT hes hex hc]
 ·unfold dx;rw[NY λr hr=> .inr (hall _ (hes r hr).2)];rfl
 ·unfold dx;rw[NY λr hr=> .inl (hall _ (hes r hr).1)];rfl
theorem ajx{a:List ax}(h:cR a=true):rS a=(a,0):=by
 unfold cR at h;rw[aK,aS,aS]at h;obtain⟨h1,h2⟩:=h;exact Prod.ext h2 h1
theorem uy{a:List ax}(h:cR a=true):(∀ r∈a,ej r=true)/\a.length<=200/\nN (bD a)=a:=by
 have h:=ajx h;unfold rS at h;split at h
 ·rename_i hall;split at h
  ·simp at h
  ·split at h
   ·simp at h
   ·rename_i ra;injection h with h _;refine⟨all_eq_true.1 hall,?_,h⟩;rw[<- h];omega
 ·simp at h
def ext(ab:List aO)(p:aO):List aO:=
 match ab.getLast? with
 |some q=>bif q.to==p.from_ then ab.dropLast++[⟨q.from_,p.to⟩]else ab++[p]
 |none=>[p]
def kA(a b:List aO):List Int:=E3 ((a++b).flatMap λs=>[s.from_,s.to])
def uz(keep:Bool->Bool->Bool)(a b:List aO):List aO:=
 ((jd aO.mk (kA a b)).filter λp=>keep (hZ a p.from_) (hZ b p.from_)).foldl ext []
theorem agz(o:List aO)(q p:aO):ext (o++[q]) p=bif q.to==p.from_ then o++[⟨q.from_,p.to⟩]else o++[q]++[p]:=by simp[ext]
def qO(keep:Bool->Bool->Bool)(a b:List ax):List bW:=
 jd (λ x x'=>(⟨x,x',uz keep (dx a x) (dx b x)⟩:bW)) (gV (a++b))
def o8(keep:Bool->Bool->Bool)(a b:List ax):List ax×Int:=
 if cR a&&cR b then(if (nN (qO keep a b)).length>200 then([],6)else(nN (qO keep a b),0))else([],1)
def WY{α:Type}(a0:List α)(a1:Int)(a2:(α×Int×Unit)->Option Int):(Int×Int)->Option ((Int×Int)⊕Int)
 |(v1,v2)=>(bif (decide (v1<(v2:Int)))then(ck (decide (0<=1)&&decide (1<=IntKind.u64.bits)) ((bo a0 (i64.wrap ((IntKind.u64.wrap (i64.wrap (v1+v2)))/2 ^ (1:Int).toNat))).bind λx1=>(a2 (x1,a1,())).bind λr1=>(bif (decide (r1<(0:Int)))then some (.inl ((i64.wrap ((i64.wrap ((IntKind.u64.wrap (i64.wrap (v1+v2)))/2 ^ (1:Int).toNat))+1)),v2))else some (.inl (v1,(i64.wrap ((IntKind.u64.wrap (i64.wrap (v1+v2)))/2 ^ (1:Int).toNat)))))))else some (.inr v1))
theorem aeh{α:Type}{l:List α}{key:Int}{φ:(α×Int×Unit)->Option Int}(p:α->Bool)(f:α->Int)(hφ:∀x,φ (x,key,())=some (f x))(hf:∀x,decide (f x<0)=p x)
 (hm:∀i j (hj:j<l.length) (hij:i<j),p l[j]=true->p (l[i]'(by omega))=true) (hl:l.length<1099511627776):
 ∀(m i j n:Nat),j -i<=m->i<=j->j<=l.length->(∀ k (hk:k<i) (hkl:k<l.length),p l[k]=true)->(∀ k (hk:j<=k) (hkl:k<l.length),p l[k]=false)->m<n->
 ∃w:Nat,w<=l.length/\iter (WY l key φ) n ((i:Int),(j:Int))=some (w:Int)/\(∀ k (hk:k<w) (hkl:k<l.length),p l[k]=true)/\∀k (hk:w<=k) (hkl:k<l.length),p l[k]=false:=by
 intro m
 induction m with
 |zero=>
  intro i j n hm0 hij hjl h1 h2 hn;obtain⟨n,rfl⟩:∃q,n=q+1:=⟨n -1,by omega⟩;have:i=j:=by omega
  subst this;exact⟨i,hjl,fF (by simp[WY]),h1,h2⟩
 |succ m ih=>
  intro i j n hm0 hij hjl h1 h2 hn;obtain⟨n,rfl⟩:∃q,n=q+1:=⟨n -1,by omega⟩;by_cases hlt:i<j
  ·have c:decide ((i:Int)<(j:Int))=true:=(by simpa using hlt);have c1:(decide (0<=1)&&decide (1<=IntKind.u64.bits))=true:=rfl;have e:i64.wrap ((IntKind.u64.wrap (i64.wrap ((i:Int)+(j:Int))))/2 ^ (1:Int).toNat)=(((i+j)/2:Nat):Int):=by
    rw[apk (by omega),ajj (by omega),show((((i+j:Nat):Int))/2 ^ (1:Int).toNat)=(((i+j)/2:Nat):Int)by
     rw[show (1:Int).toNat=1 from rfl,Int.pow_one];omega,M5 (by omega)]
   have hh:(i+j)/2<l.length:=(by omega);cases hp:p l[(i+j)/2]with
   |true=>
    have s:WY l key φ ((i:Int),(j:Int))=some (.inl ((((i+j)/2+1:Nat):Int),(j:Int))):=by
     simp only[WY,c,aj,c1,e,bB hh,af,hφ,hf,hp];rw[bL (by omega)]
    rw[iH s];refine ih _ _ n (by omega) (by omega) hjl (λ k hk hkl=>?_) h2 (by omega);by_cases hk2:k<(i+j)/2
    ·exact hm k _ hh hk2 hp
    ·have:k=(i+j)/2:=(by omega);subst this;exact hp
   |false=>
    have s:WY l key φ ((i:Int),(j:Int))=some (.inl ((i:Int),(((i+j)/2:Nat):Int))):=(by simp only[WY,c,aj,c1,e,bB hh,af,hφ,hf,hp,ak]);rw[iH s];refine ih _ _ n (by omega) (by omega) (by omega) h1 (λ k hk hkl=>?_) (by omega);by_cases hk2:(i+j)/2<k
    ·cases hpk:p l[k]with
     |false=>rfl
     |true=>have:=hm _ k hkl hk2 hpk;rw[hp]at this;cases this
    ·have:k=(i+j)/2:=(by omega);subst this;exact hp
  ·have:i=j:=(by omega);subst this;exact⟨i,hjl,fF (by simp[WY]),h1,h2⟩
theorem alE(l:List bW)(key:Int)(φ:(bW×Int×Unit)->Option Int):lD l key φ=WY l key φ:=by funext ⟨a,b⟩;rfl
theorem anh(l:List aO)(key:Int)(φ:(aO×Int×Unit)->Option Int):mE l key φ=WY l key φ:=by funext ⟨a,b⟩;rfl
theorem WZ:∀{l:List bW},WW l->l.Pairwise (λ s t=>s.x1<=t.x0)/\∀s∈l,s.x0<s.x1
 |[],_=>⟨List.Pairwise.nil,by simp⟩
 |[s],h=>⟨by simp,λt ht=>by have:t=s:=by simpa using ht
                            subst this;exact h⟩
 |s::t::l,h=>by
  obtain⟨h1,h2,h3⟩:=h;have⟨p1,p2⟩:=WZ h3;refine⟨?_,?_⟩
  ·rw[pairwise_cons];refine⟨λ u hu=>?_,p1⟩;rcases aN.1 hu with rfl |hu
   ·omega
   ·have:=(pairwise_cons.1 p1).1 u hu;have:=p2 t (by simp);omega
  ·intro u hu;rcases aN.1 hu with rfl |hu
   ·exact h1
   ·exact p2 u hu
theorem K8{x:Int}:∀{l:List bW},(∀ s∈l,¬(s.x0<=x/\x<s.x1))->Il l x=[]
 |[],_=>rfl
 |s::l,h=>by
  have:=h s (by simp);rw[y5,show(decide (s.x0<=x)&&decide (x<s.x1))=false by rw[Bool.and_eq_false_iff,dK,dK];omega,ak];exact K8 λt ht=>h t (by simp[ht])
theorem aaw{x:Int}:∀{l:List bW}{w:Nat}(hw:w<l.length),(∀ k (hk:k<w),¬((l[k]'(by omega)).x0<=x/\x<(l[k]'(by omega)).x1))->l[w].x0<=x->x<l[w].x1->Il l x=l[w].column
 |[],w,hw,_,_,_=>by simp at hw
 |s::l,0,hw,_,h0,h1=>ang h0 h1
 |s::l,w+1,hw,hk,h0,h1=>by
  have hs:=hk 0 (by omega);simp only[List.getElem_cons_zero]at hs;rw[y5,show(decide (s.x0<=x)&&decide (x<s.x1))=false by rw[Bool.and_eq_false_iff,dK,dK];omega,ak];exact aaw (by simpa using hw) (λ k hk'=>by have:=hk (k+1) (by omega);simpa using this) h0 h1
theorem aei{l:List bW}{x:Int}(h:WW l)(hl:l.length<1099511627776)(hn:l.length<n):WR n l x=some (Il l x):=by
 have⟨a1,a2⟩:=WZ h;rw[List.pairwise_iff_getElem]at a1
 have run:=aeh (l:=l) (key:=x) (φ:=λ(y1:bW×Int×Unit)=>wF y1.1 y1.2.1) (λ s=>decide (s.x1<=x)) (λ s=>if s.x1<=x then -1 else 1)
  (λ s=>by show wF s x=_;unfold wF;by_cases c:s.x1<=x<;>simp[c]) (λ s=>by by_cases c:s.x1<=x<;>simp[c])
  (λ i j hj hij hp=>by
   rw[aS]at hp ⊢;have:=a1 i j (by omega) hj hij;have:=a2 l[j] (getElem_mem _);omega) hl l.length 0 l.length n (by omega) (by omega) (aC _) (λ k hk=>by omega) (λ k hk hkl=>by omega) hn
 obtain⟨w,hw,e,h1,h2⟩:=run;unfold WR ja;rw[alE];have e':iter (WY l x λ(y1:bW×Int×Unit)=>wF y1.1 y1.2.1) n ((0:Int),(l.length:Int))=some (w:Int):=e;rw[e'];simp only[af];have aq:∀b:Int,∃bb,((bif (decide ((w:Int)<((l.length:Int):Int)))then(bo l (w:Int)).bind λx2=>(wF x2 x).bind λr2=>some ((w:Int),(r2==b))else some ((w:Int),false)):Option (Int×Bool))=some ((w:Int),bb):=by
  intro b;by_cases c:w<l.length
  ·have d:decide ((w:Int)<(l.length:Int))=true:=(by simpa using c);rw[d];simp only[aj];rw[bB c,af];unfold wF;cases decide (l[w].x1<=x)<;>exact⟨_,rfl⟩
  ·have d:decide ((w:Int)<(l.length:Int))=false:=(by simp;omega);rw[d];exact⟨_,rfl⟩
 have⟨bb,hbb⟩:=aq 0;rw[hbb,af];simp only[];by_cases c:w<l.length
 ·have d:decide ((w:Int)<(l.length:Int))=true:=by simpa using c
  simp only[d,aj,bB c,af];have hx1:=h2 w (aC _) c;rw[dK]at hx1;by_cases c2:l[w].x0<=x
  ·simp only[c2,decide_true,aj];rw[aaw c (λ k hk hh=>?_) c2 (by omega)];have:=h1 k hk (by omega);rw[aS]at this;omega
  ·simp only[c2,decide_false,ak];rw[K8 λs hs hh=>?_];obtain⟨k,hk,rfl⟩:=mem_iff_getElem.1 hs;rcases Nat.lt_trichotomy k w with A5 |rfl |A5
   ·have:=h1 k A5 hk;rw[aS]at this;omega
   ·omega
   ·have:=a1 w k c hk A5;have:=a2 l[w] (getElem_mem _);omega
 ·have d:decide ((w:Int)<(l.length:Int))=false:=by simp;omega
  simp only[d,ak,af];rw[K8 λs hs hh=>?_];obtain⟨k,hk,rfl⟩:=mem_iff_getElem.1 hs;have:=h1 k (by omega) hk;rw[aS]at this;omega
theorem NZ{l:List aO}{y:Int}(h:Can l)(hl:l.length<1099511627776)(hn:l.length<n):CJ n l y=some (hZ l y):=by
 obtain⟨a1,a2⟩:=h;rw[List.pairwise_iff_getElem]at a1
 have run:=aeh (l:=l) (key:=y) (φ:=λ(y1:aO×Int×Unit)=>lF y1.1 y1.2.1) (λ s=>decide (s.to<=y)) (λ s=>if s.to<=y then -1 else 1)
  (λ s=>by show lF s y=_;unfold lF;by_cases c:s.to<=y<;>simp[c]) (λ s=>by by_cases c:s.to<=y<;>simp[c])
  (λ i j hj hij hp=>by
   rw[aS]at hp ⊢;have:=a1 i j (by omega) hj hij;have:l[j].from_<l[j].to:=a2 l[j] (getElem_mem _);omega) hl l.length 0 l.length n (by omega) (by omega) (aC _) (λ k hk=>by omega) (λ k hk hkl=>by omega) hn
 obtain⟨w,hw,e,h1,h2⟩:=run;unfold CJ jr;rw[anh];have e':iter (WY l y λ(y1:aO×Int×Unit)=>lF y1.1 y1.2.1) n ((0:Int),(l.length:Int))=some (w:Int):=e;rw[e'];simp only[af];have aq:∀b:Int,∃bb,((bif (decide ((w:Int)<((l.length:Int):Int)))then(bo l (w:Int)).bind λx2=>(lF x2 y).bind λr2=>some ((w:Int),(r2==b))else some ((w:Int),false)):Option (Int×Bool))=some ((w:Int),bb):=by
  intro b;by_cases c:w<l.length
  ·have d:decide ((w:Int)<(l.length:Int))=true:=(by simpa using c);rw[d];simp only[aj];rw[bB c,af];unfold lF;cases decide (l[w].to<=y)<;>exact⟨_,rfl⟩
  ·have d:decide ((w:Int)<(l.length:Int))=false:=(by simp;omega);rw[d];exact⟨_,rfl⟩
 have⟨bb,hbb⟩:=aq 0;rw[hbb,af];simp only[];by_cases c:w<l.length
 ·have d:decide ((w:Int)<(l.length:Int))=true:=by simpa using c
  simp only[d,aj,bB c,af];have hx1:=h2 w (aC _) c;rw[dK]at hx1;congr 1;rw[jZ,aS,NS];constructor
  ·exact λhf=>⟨l[w],getElem_mem _,hf,by omega⟩
  ·rintro⟨s,hs,g1,g2⟩;obtain⟨k,hk,rfl⟩:=mem_iff_getElem.1 hs;rcases Nat.lt_trichotomy k w with A5 |rfl |A5
   ·have:=h1 k A5 hk;rw[aS]at this;omega
   ·exact g1
   ·have:=a1 w k c hk A5;omega
 ·have d:decide ((w:Int)<(l.length:Int))=false:=by simp;omega
  simp only[d,ak];congr 1;symm;cases hh:hZ l y with
  |false=>rfl
  |true=>
   obtain⟨s,hs,g1,g2⟩:=(NS _ _).1 hh;obtain⟨k,hk,rfl⟩:=mem_iff_getElem.1 hs;have:=h1 k (by omega) hk;rw[aS]at this;omega
theorem N7{l:List (List aO)}(hf:l.flatten.length<1099511627776)(hl:l.length<1099511627776)(hn:l.length<n):yT n l=some l.flatten:=M6 (aO.mk 0 0) (b:=16) hf (by omega) hl hn
theorem N8(l:List aO):(l.flatMap λr=>[r.from_,r.to]).length=2*l.length:=by
 induction l with
 |nil=>rfl
 |cons x l ih=>simp only[List.flatMap_cons,dL,ih,bG,length_nil];omega
theorem SA{l:List aO}(hl:l.length<10995116277)(hn:l.length<n):iter (wG l) n ((0:Int),([]:List Int))=some (l.flatMap λr=>[r.from_,r.to]):=by
 have:=fD (l:=l) (step:=wG l) (λ i (s:List Int)=>((i:Int),s)) (λ r s=>s++[r.from_,r.to]) (λ s=>s) (λ i s=>s.length<=2*i)
  (λ i hi s hs=>?_) (λ s hs=>by simp[wG]) n hn [] (aC _)
 ·rw[show ((0:Nat):Int)=0 from rfl]at this;rw[this];have gen:∀(ys:List aO)(s:List Int),ys.foldl (λ s r=>s++[r.from_,r.to]) s=s++ys.flatMap λr=>[r.from_,r.to]:=by
   intro ys
   induction ys with
   |nil=>intro s;simp
   |cons y ys ih=>intro s;simp[ih]
  congr 1;simpa using gen l []
 ·have hi':decide ((i:Int)<(l.length:Int))=true:=by simpa using hi
  have ap:bQ s.length s.length (sub ([l[i].from_,l[i].to]:List Int) 0 2).length 2 8=true:=dh (n:=2);simp only[wG,hi',aj,aU hi,aY hi,af,ap,dN,aD];refine⟨?_,by simp;omega⟩;rw[bL (by omega)];rfl
theorem K9{α β:Type}(p:α->Bool)(f:β->α->β):∀(l:List α)(s:β),(l.filter p).foldl f s=l.foldl (λ s x=>bif p x then f s x else s) s
 |[],s=>rfl
 |x::l,s=>by
  rw[List.filter_cons,foldl_cons];cases h:p x with
  |true=>simp only[if_true,foldl_cons,aj];exact K9 p f l _
  |false=>simp only[Bool.false_eq_true,if_false,ak];exact K9 p f l _
theorem W9(ab:List aO)(p:aO):(ext ab p).length<=ab.length+1:=by
 unfold ext;cases ab.getLast? with
 |none=>simp
 |some q=>simp only;cases q.to==p.from_<;>simp<;>omega
theorem Xa(a b:List aO):(kA a b).length<=2*(a.length+b.length):=by
 have h:=rC (j6 (λ a b=>decide (a<b)) ((a++b).flatMap λr=>[r.from_,r.to]));rw[eH,N8,dL]at h;exact h
theorem YU(keep:Bool->Bool->Bool)(a b:List aO):(uz keep a b).length<=2*(a.length+b.length):=by
 have gen:∀(ys ab:List aO),(ys.foldl ext ab).length<=ab.length+ys.length:=by
  intro ys
  induction ys with
  |nil=>intro ab;simp
  |cons y ys ih=>
   intro ab;simp only[foldl_cons,bG];have:=ih (ext ab y);have:=W9 ab y;omega
 have h:=gen ((jd aO.mk (kA a b)).filter λp=>keep (hZ a p.from_) (hZ b p.from_)) [];have h2:=length_filter_le (λ p=>keep (hZ a p.from_) (hZ b p.from_)) (jd aO.mk (kA a b));have h3:=(rT aO.mk (kA a b)).1;have h4:=Xa a b;simp only[length_nil]at h;unfold uz;omega
theorem aej{keep:Bool->Bool->Bool}{φ:(Bool×Bool×Unit)->Option Bool}(hφ:∀p q,φ (p,q,())=some (keep p q)){a b:List aO}(ha:Can a)(hb:Can b)(hl:a.length+b.length<1099511627)(hn:2*(a.length+b.length)+2<n):Ia n a b φ=some (uz keep a b):=by
 have fl:[a,b].flatten=a++b:=by simp
 have s2:(sub ([a,b]:List (List aO)) 0 2)=[a,b]:=rfl;have q2:az ([a,b]:List (List aO)).length 2=true:=rfl;have hys:=Xa a b;have hfl:((a++b).flatMap λr=>[r.from_,r.to]).length=2*(a.length+b.length):=by rw[N8,dL]
 unfold Ia;rw[s2,q2];simp only[aj];rw[N7 (by rw[fl,dL];omega) (by simp) (by simp;omega),fl];simp only[af,length_nil,aD,aj,SA (l:=a++b) (n:=n) (by rw[dL];omega) (by rw[dL];omega)];rw[o7 (by rw[hfl];omega) (by rw[hfl];omega)];simp only[af,eH,aD,aj];rw[uq (by rw[eH,hfl];omega) (by rw[eH,hfl];omega)];simp only[af];have hE:gH (j6 oc ((a++b).flatMap λr=>[r.from_,r.to]))=kA a b:=rfl;rw[hE];have⟨p1,p2⟩:=rT aO.mk (kA a b);have key:iter (wH n a b φ ((),kA a b)) n ((1:Int),([]:List aO))=some (uz keep a b):=by
  have:=fD (l:=jd aO.mk (kA a b)) (step:=wH n a b φ ((),kA a b)) (λ i (s:List aO)=>(((i+1:Nat):Int),s)) (λ p s=>bif keep (hZ a p.from_) (hZ b p.from_)then ext s p else s) (λ s=>s) (λ i s=>s.length<=i)
   (λ i hi s hs=>?_) (λ s hs=>?_) n (by omega) [] (aC _)
  ·rw[show ((0+1:Nat):Int)=1 from rfl]at this;rw[this,uz,K9]
  ·have hi2:i+1<(kA a b).length:=(by omega);have hi1:i<(kA a b).length:=(by omega);have d:decide (((i+1:Nat):Int)<(((kA a b).length:Nat):Int))=true:=(by simp;omega);have wp:i64.wrap (((i+1:Nat):Int) -1)=(i:Int):=(by rw[mO (by omega) (by omega)];rfl);have pe:(jd aO.mk (kA a b))[i]=aO.mk (kA a b)[i] (kA a b)[i+1]:=p2 i hi2 hi;rw[pe];have lx:=W9 s (aO.mk (kA a b)[i] (kA a b)[i+1]);have ap:bQ s.length s.length (sub ([(aO.mk (kA a b)[i] (kA a b)[i+1])]:List aO) 0 1).length 1 16=true:=dh (n:=1);have sb:(sub ([(aO.mk (kA a b)[i] (kA a b)[i+1])]:List aO) 0 1)=[aO.mk (kA a b)[i] (kA a b)[i+1]]:=rfl;refine⟨?_,by cases keep (hZ a (kA a b)[i]) (hZ b (kA a b)[i])<;>simp only[aj,ak]<;>omega⟩;simp only[wH,d,aj,wp,aU hi1,aY hi1,af,NZ (n:=n) ha (show a.length<1099511627776 by omega) (show a.length<n by omega),NZ (n:=n) hb (show b.length<1099511627776 by omega) (show b.length<n by omega),hφ];cases hk:keep (hZ a (kA a b)[i]) (hZ b (kA a b)[i])with
   |false=>
    simp only[Bool.not_false,aj,aD,af,ak];rw[bL (by omega)]
   |true=>
    simp only[Bool.not_true,ak,aj];rcases List.eq_nil_or_concat s with rfl |⟨s0,q,Hp⟩
    ·have d0:decide (((([]:List aO).length:Nat):Int)>0)=false:=(by simp);simp only[d0,ak,af,aU hi2,aY hi2,aj,ap,dN,aD];rw[bL (by omega)];rfl
    ·rw[List.concat_eq_append]at Hp;subst Hp;have d0:decide (((((s0++[q]).length:Nat):Int))>0)=true:=(by simp<;>omega);have AI:(s0++[q]).length=s0.length+1:=(by simp);have wq:i64.wrap ((((s0++[q]).length:Nat):Int) -1)=(s0.length:Int):=(by rw[mO (by simp) (by omega),AI];rfl);have QQ:cC (s0.length:Int) (s0++[q]).length=true:=aU (by omega);have g:bo (s0++[q]) (((0:Nat):Int)+(s0.length:Int))=some q:=(by rw[Eb];simp);have z:(((0:Nat):Int)+(s0.length:Int)).toNat=s0.length:=(by simp);have st:(s0++[q]).set s0.length (aO.mk q.from_ (kA a b)[i+1])=s0++[⟨q.from_,(kA a b)[i+1]⟩]:=(by simp);simp only[d0,aj,wq,QQ,g,af,agz];cases hj:q.to==(kA a b)[i]with
     |true=>
      simp only[aj,aU hi2,aY hi2,af,z,st];have e:az (s0++[q]).length (s0++[(⟨q.from_,(kA a b)[i+1]⟩:aO)]).length=true:=(by simp);simp only[e,aj,af,aD];rw[bL (by omega)]
     |false=>
      rw[sb]at ap;simp only[ak,aU hi2,aY hi2,af,aj,sb,ap,dN,aD];rw[bL (by omega)]
  ·have d:decide ((((jd aO.mk (kA a b)).length+1:Nat):Int)<(((kA a b).length:Nat):Int))=false:=(by simp;omega);simp only[wH,d,ak,aD,aj]
 rw[key];simp only[af,bZ,aD,aj]
theorem CV(keep:Bool->Bool->Bool)(a b:List ax):qO keep a b=(bD (a++b)).map λs=>⟨s.x0,s.x1,uz keep (dx a s.x0) (dx b s.x0)⟩:=by
 have gen:∀es:List Int,jd (λ x x'=>(⟨x,x',uz keep (dx a x) (dx b x)⟩:bW)) es=(jd (λ x x'=>(⟨x,x',dx (a++b) x⟩:bW)) es).map λs=>⟨s.x0,s.x1,uz keep (dx a s.x0) (dx b s.x0)⟩:=by
  intro es
  match es with
  |[]=>rfl
  |[_]=>rfl
  |x::y::l=>
   rw[p8,p8,aF];congr 1;have:∀es:List Int,jd (λ x x'=>(⟨x,x',uz keep (dx a x) (dx b x)⟩:bW)) es=(jd (λ x x'=>(⟨x,x',dx (a++b) x⟩:bW)) es).map λs=>⟨s.x0,s.x1,uz keep (dx a s.x0) (dx b s.x0)⟩:=by
    intro es
    induction es with
    |nil=>rfl
    |cons x es ih=>
     cases es with
     |nil=>rfl
     |cons y es=>rw[p8,p8,aF,ih]
   exact this (y::l)
 exact gen (gV (a++b))
theorem YV{keep:Bool->Bool->Bool}{φ:(Bool×Bool×Unit)->Option Bool}(hφ:∀p q,φ (p,q,())=some (keep p q)){a b:List ax}(ha:a.length<1099511627776)(hb:b.length<1099511627776)(hna:a.length<n)(hnb:b.length<n)(hn:1000<=n):Ej n a b φ=some (o8 keep a b):=by
 unfold Ej o8;rw[lV ha hna hn,af];cases hra:cR a with
 |false=>rfl
 |true=>
  rw[lV hb hnb hn];simp only[Bool.not_true,ak,af,Bool.true_and];cases hrb:cR b with
  |false=>rfl
  |true=>
   have⟨a1,a2,_⟩:=uy hra;have⟨b1,b2,_⟩:=uy hrb;have fa:[a].flatten=a:=(by simp);have fb:[b].flatten=b:=(by simp);have fab:[a,b].flatten=a++b:=(by simp);have hab:∀r∈a++b,ej r=true:=λr hr=>by
    rcases bf.1 hr with hr |hr
    ·exact a1 r hr
    ·exact b1 r hr
   have sa:oq n [a]=some (bD a):=by
    have:=xY (n:=n) (ls:=[a]) (by rw[fa];exact a1) (by rw[fa];omega) (by simp) (by rw[fa];omega) (by simp;omega)
    rwa [fa]at this
   have sb:oq n [b]=some (bD b):=by
    have:=xY (n:=n) (ls:=[b]) (by rw[fb];exact b1) (by rw[fb];omega) (by simp) (by rw[fb];omega) (by simp;omega)
    rwa [fb]at this
   have lab:(a++b).length=a.length+b.length:=dL;have sab:oq n [a,b]=some (bD (a++b)):=by
    have:=xY (n:=n) (ls:=[a,b]) (by rw[fab];exact hab) (by rw[fab,lab];omega) (by simp) (by rw[fab,lab];omega) (by simp;omega)
    rwa [fab]at this
   have e1:(sub ([a]:List (List ax)) 0 1)=[a]:=rfl;have e2:(sub ([b]:List (List ax)) 0 1)=[b]:=rfl;have e3:(sub ([a,b]:List (List ax)) 0 2)=[a,b]:=rfl;have q1:az ([a]:List (List ax)).length 1=true:=rfl;have q2:az ([b]:List (List ax)).length 1=true:=rfl;have q3:az ([a,b]:List (List ax)).length 2=true:=rfl;have la:=uw a;have lb:=uw b;have lS:=uw (a++b);rw[lab]at lS;have mc:∀x,(dx a x).length<=200/\(dx b x).length<=200:=λx=>⟨Nat.le_trans (yY a x) a2,Nat.le_trans (yY b x) b2⟩;have lm:∀x,(uz keep (dx a x) (dx b x)).length<=800:=λx=>by
    have:=YU keep (dx a x) (dx b x);have:=mc x;omega
   have key:iter (qC n φ (bD a) (bD b) (bD (a++b))) n ((0:Int),bD (a++b))=some (qO keep a b):=by
    have:=mF (step:=qC n φ (bD a) (bD b) (bD (a++b))) (λ i=>((i:Int),(qO keep a b).take i++(bD (a++b)).drop i)) (bD (a++b)).length (qO keep a b) (λ i hi=>?_) ?_ n (by omega)
    ·simpa using this
    ·have d:decide ((i:Int)<(((bD (a++b)).length:Nat):Int))=true:=(by simpa using hi);have lc:(qO keep a b).length=(bD (a++b)).length:=(by rw[CV,length_map]);have lt:((qO keep a b).take i).length=i:=(by rw[length_take];omega);have hd:(bD (a++b)).drop i=(bD (a++b))[i]::(bD (a++b)).drop (i+1):=List.drop_eq_getElem_cons hi;have g:bo ((qO keep a b).take i++(bD (a++b)).drop i) (((0:Nat):Int)+(i:Int))=some (bD (a++b))[i]:=(by rw[Eb,jB (by omega),lt,hd];simp);have st:∀s:bW,((qO keep a b).take i++(bD (a++b)).drop i).set i s=(qO keep a b).take i++s::(bD (a++b)).drop (i+1):=by
      intro s;rw[List.set_append_right _ _ (by omega),lt,hd,Nat.sub_self];rfl
     have z:(((0:Nat):Int)+(i:Int)).toNat=i:=(by simp);have tk:(qO keep a b).take (i+1)=(qO keep a b).take i++[⟨(bD (a++b))[i].x0,(bD (a++b))[i].x1,uz keep (dx a (bD (a++b))[i].x0) (dx b (bD (a++b))[i].x0)⟩]:=by
      rw[gF (by omega)];congr 2;simp only[CV,List.getElem_map]
     have hm:=mc (bD (a++b))[i].x0;have mg:Ia n (dx a (bD (a++b))[i].x0) (dx b (bD (a++b))[i].x0) φ=some (uz keep (dx a (bD (a++b))[i].x0) (dx b (bD (a++b))[i].x0)):=
      aej hφ (NV a1 _).1 (NV b1 _).1 (by omega) (by omega)
     have at1:WR n (bD a) (bD (a++b))[i].x0=some (dx a (bD (a++b))[i].x0):=(by rw[aei (Ip a) (by omega) (by omega),KI]);have at2:WR n (bD b) (bD (a++b))[i].x0=some (dx b (bD (a++b))[i].x0):=(by rw[aei (Ip b) (by omega) (by omega),KI]);simp only[qC,d,aj,aU hi,g,af,bZ,at1,at2,mg,aD,z,st];rw[bL (by omega),tk,aM];rfl
    ·have lc:(qO keep a b).length=(bD (a++b)).length:=(by rw[CV,length_map]);have d:decide ((((bD (a++b)).length:Nat):Int)<(((bD (a++b)).length:Nat):Int))=false:=(by simp);simp only[qC,d,ak,List.drop_length,append_nil];rw[take_of_length_le (by omega)]
   have lc:(qO keep a b).length=(bD (a++b)).length:=(by rw[CV,length_map]);have cc:∀s∈qO keep a b,s.column.length<=800:=by
    intro s hs;rw[CV,mem_map]at hs;obtain⟨t,_,rfl⟩:=hs;exact lm _
   have sl:sub (qO keep a b) 0 (bD (a++b)).length=qO keep a b:=(by rw[<- lc,bZ]);simp only[Bool.not_true,ak,e1,e2,e3,q1,q2,q3,aj,sa,sb,sab,af,bZ,aD,key,sl,lc];rw[RP (b:=800) (by omega) (by omega) cc (by omega) (by omega)];simp only[af,bZ,aD,aj,yS,if_true,Bool.and_self];by_cases ra:(nN (qO keep a b)).length>200
   ·have:decide (((nN (qO keep a b)).length:Int)>200)=true:=(by simp;omega);simp only[this,aj,af,ra,if_true]
   ·have:decide (((nN (qO keep a b)).length:Int)>200)=false:=(by simp;omega);simp only[this,ak,af,ra,if_false]
theorem N9{a b:List ax}(ha:a.length<1099511627776)(hb:b.length<1099511627776)(hna:a.length<n)(hnb:b.length<n)(hn:1000<=n):CK n a b=some (o8 (λ p q=>p&&q) a b):=by
 unfold CK;rw[YV (keep:=λp q=>p&&q) (λ p q=>by show xM p q=_;unfold xM;cases p<;>rfl) ha hb hna hnb hn];rfl
theorem Oa{keep:Bool->Bool->Bool}(a b:List ax):(o8 keep a b).1.length<=200:=by
 unfold o8;split
 ·split
  ·simp
  ·show(nN _).length<=200;omega
 ·simp
def RQ(r:ax):Int:=(r.x1 -r.x0)*(r.y1 -r.y0)
def La(l:List ax):Int:=(l.map RQ).sum
theorem Iq{r:ax}(h:ej r=true):0<=RQ r/\RQ r<=1099511627776:=by
 simp only[ej,aK,aS]at h;unfold RQ;refine⟨Int.mul_nonneg (by omega) (by omega),?_⟩;have:=Int.mul_le_mul (show r.x1 -r.x0<=1048576 by omega) (show r.y1 -r.y0<=1048576 by omega) (by omega) (by omega);omega
theorem Xb:∀{l:List ax},(∀ r∈l,ej r=true)->0<=La l/\La l<=1099511627776*(l.length:Int)
 |[],_=>by simp[La]
 |r::l,h=>by
  have h1:=Iq (h r List.mem_cons_self);have h2:=Xb (l:=l) λq hq=>h q (eG _ hq);have e:La (r::l)=RQ r+La l:=rfl;rw[e,bG]
  push_cast
  omega
theorem Ir{l:List ax}{φ:(ax×Unit)->Option Bool}(p:ax->Bool)(h:∀x∈l,φ (x,())=some (p x))(hl:l.length<1099511627776)(hn:l.length<n):uf n l φ=some (xG p l):=gD p h hl hn
theorem sJ{l:List ax}{φ:(ax×Unit)->Option Bool}(p:ax->Bool)(h:∀x∈l,φ (x,())=some (p x))(hl:l.length<1099511627776)(hn:l.length<n):jc n l φ=some (l.any p):=by
 unfold jc;rw[Ir p h hl hn,af,xH]
theorem aax:∀(l:List Int)(x:Int),(l++[x]).sum=l.sum+x
 |[],x=>by simp
 |a::l,x=>by rw[List.cons_append,List.sum_cons,List.sum_cons,aax l x];omega
theorem ajy{r:ax}(h:ej r=true):oZ r=some (RQ r):=by
 have hb:=Iq h;unfold oZ sG;rw[iT,h];simp only[af,aj];simp only[ej,aK,aS]at h;unfold RQ at*;rw[dS (x:=r.x1 -r.x0),dS (x:=r.y1 -r.y0),dS (by omega) (by omega)]
theorem Lb{a:List ax}(ha:a.length<=900)(hn:1000<=n):JD n a=some (bif cR a then La a else 0):=by
 unfold JD;rw[lV (by omega) (by omega) hn];simp only[af];cases hr:cR a with
 |false=>rfl
 |true=>
  have ok:=(uy hr).1;have:=mF (step:=El a) (λ i=>(La (a.take i),(i:Int))) a.length (La a) (λ i hi=>?_) ?_ n (by omega)
  ·have e:La (a.take 0)=0:=rfl;rw[e,show((0:Nat):Int)=0 from rfl]at this;simp only[Bool.not_true,ak,aj,this,af]
  ·have c:decide ((i:Int)<(a.length:Int))=true:=(by simpa using hi);have h1:=Xb (l:=a.take i) λr hr=>ok r (List.mem_of_mem_take hr);rw[length_take]at h1;have h2:=Iq (ok _ (getElem_mem hi));have e:La (a.take (i+1))=La (a.take i)+RQ a[i]:=(by rw[gF hi];unfold La;rw[map_append];exact aax _ _);simp only[El,c,aj,bB hi,af,ajy (ok _ (getElem_mem hi))];rw[bL (by omega),dS (by omega) (by omega),e]
  ·simp[El]
theorem Qi{α:Type}(p:α->Bool)(l:List α):(match nT p l with |some _=>true |none=>false)=l.any p:=by
 have:=pJ p l;rw[<- this];cases nT p l<;>rfl
def MT(p q:ax):Bool:=decide (max p.x0 q.x0<min p.x1 q.x1)&&decide (max p.y0 q.y0<min p.y1 q.y1)
def Kd(a b:List ax):Bool:=a.any λp=>b.any λq=>MT p q
theorem agA{a b:List ax}(ha:a.length<1099511627776)(hb:b.length<1099511627776)(hna:a.length<n)(hnb:b.length<n):UA n a b=some (Kd a b):=by
 unfold UA Kd;rw[sJ (λ p=>b.any λq=>MT p q) (λ p _=>?_) ha hna]
 ·rfl
 ·show Ey n p b=_;unfold Ey;rw[sJ (λ q=>MT p q) (λ q _=>?_) hb hnb]
  ·rfl
  ·show vM q p=_;unfold vM MT;have e1:max q.x0 p.x0=max p.x0 q.x0:=(by omega);have e2:min q.x1 p.x1=min p.x1 q.x1:=(by omega);have e3:max q.y0 p.y0=max p.y0 q.y0:=(by omega);have e4:min q.y1 p.y1=min p.y1 q.y1:=by omega
   first
    |(cases decide (max p.x0 q.x0<min p.x1 q.x1)<;>rfl)
    |(rw [e1,e2,e3,e4];cases decide (max p.x0 q.x0<min p.x1 q.x1)<;>rfl)
theorem agB{a b:List ax}(hl:a.length<1099511627776)(hn:a.length<n):Uz n a b=some (decide (a=b)):=by
 unfold Uz;rw[CQ hl hn];rfl
abbrev wy(a b:ax):Bool:=decide (a.y0<b.y0)
theorem aij:Go.Sort.SWO wy where
 irrefl x:=by simp[wy]
 trans x y z h1 h2:=by simp only[wy,aS]at *;omega
 ntrans x y z h1 h2:=by simp only[wy,dK]at *;omega
instance:Inhabited ax:=⟨ax.mk 0 0 0 0⟩
theorem JY{l:List ax}{φ:(ax×ax×Unit)->Option Int}(f:ax->ax->Int)(hφ:∀x y,φ (x,y,())=some (f x y))(hf:∀x y,decide (f x y<0)=wy x y)(hl:l.length<1099511627776)(_:l.length<n):vg n l φ=some (lu wy l):=
 ad2 f hφ hf aij hl
structure apo(R:List bW):Prop where
 runs:Runs R
 len:R.length<=200
 col:∀s∈R,Can s.column/\∀q∈s.column,0<=q.from_/\q.from_<q.to/\q.to<=1048576
 xs:∀s∈R,0<=s.x0/\s.x0<s.x1/\s.x1<=1048576
 yz:(R.flatMap λs=>s.column.map (·.from_)).length<=200
theorem agC(p:Nat->Bool)(N:Nat):(nT p (List.range N)=none->(List.range N).any p=false)/\(∀ i,nT p (List.range N)=some i->(List.range N).any p=true):=by
 refine⟨λ h=>?_,λi h=>?_⟩
 ·rw[<- pJ,h];rfl
 ·rw[<- pJ,h];rfl
theorem Iu{W O:Type}{step:Int->Option (Int⊕(W⊕O))}(N:Nat)(p:Nat->Bool)(w:W)(o:O)
 (h:∀i,i<N->step (i:Int)=some (bif p i then .inr (.inr o)else .inl ((i+1:Nat):Int)))
 (hend:step (N:Int)=some (.inr (.inl w))) (n:Nat) (hn:N<n):iter step n (0:Int)=some (bif (List.range N).any p then .inr o else .inl w):=by
 have:=pI (l:=List.range N) (step:=step) (λ i=>(i:Int)) p w (λ _=>o) (λ i hi=>by
  rw[List.length_range]at hi;rw[List.getElem_range];exact h i hi) (by rw[List.length_range];exact hend) n (by rw[List.length_range];exact hn)
 rw[show ((0:Nat):Int)=0 from rfl]at this;rw[this];have⟨r1,r2⟩:=agC p N;cases hf:nT p (List.range N)with
 |none=>rw[r1 hf];rfl
 |some i=>rw[r2 i hf];rfl
theorem Iw{p:List dQ}(hl:p.length<=1000)(hn:2000<=n):iter (pQ n p (gq p)) n (0:Int)=some (bif (List.range p.length).any (IP p)then .inr false else .inl ()):=by
 refine Iu p.length (IP p) () false (λ i hi=>?_) ?_ n (by omega)
 ·have nz:((p.length:Int) !=0)=true:=by simp;intro h;rw[h]at hi;simp at hi
  have md:(i+1)%p.length<p.length:=Nat.mod_lt _ (by omega);have w:i64.wrap ((i:Int)+1)=((i+1:Nat):Int):=bL (by omega);have g1:bo (gq p) (((0:Nat):Int)+(i:Int))=some (je p i):=by rw[aY (by rw[dY];exact hi),yZ]
  have g2:bo (gq p) (((0:Nat):Int)+(((i+1)%p.length:Nat):Int))=some (je p ((i+1)%p.length)):=by rw[aY (by rw[dY];exact md),yZ]
  obtain⟨r,hr1,hr2⟩:=K7 (n:=n) (pH p 0) (pH p i) (by omega);have g3:bo p 0=some (pH p 0):=by rw[amT (by omega),<- UB]
  have g4:bo p (i:Int)=some (pH p i):=by rw[bB hi,<- UB]
  have dz:decide ((i:Int)>0)=decide (0<i):=by rw[jZ];simp
  have pt:dQ.mk (je p i).ly (je p i).pC=pH p i:=rfl;simp only[pQ,dY,bO hi,aj,aU hi,g1,g2,af,nz,w,aav,aU md,pt,NU,mW,NT,g3,g4,hr1,hr2,dz,Option.map_some];unfold IP;generalize UC (pH p i)=b1;generalize (((je p i).ly==(je p i).mf)==((je p i).pC==(je p i).t7))=b2;generalize (ua (je p i)==ua (je p ((i+1)%p.length)))=b3;generalize decide (0<i)=b4;generalize UD (pH p 0) (pH p i)=b5;cases b1<;>cases b2<;>cases b3<;>cases b4<;>cases b5<;>rfl
 ·simp only[pQ,dY,bX,ak]
theorem Iy{p:List dQ}(hl:p.length<=1000)(hn:2000<=n){i:Nat}(hi:i<p.length):
 iter (iQ (gq p) (i:Int)) n (((i+2:Nat):Int))=some (bif (List.range p.length).any λk=>decide (i+2<=k)&&Sz p i k then .inr (.inr (.inr false))else .inl ()):=by
 have st:∀k,k<p.length->iQ (gq p) (i:Int) (k:Int)=some (bif Sz p i k then .inr (.inr (.inr (.inr false)))else .inl ((k+1:Nat):Int)):=by
  intro k hk;have g1:bo (gq p) (((0:Nat):Int)+(i:Int))=some (je p i):=by rw[aY (by rw[dY];exact hi),yZ]
  have g2:bo (gq p) (((0:Nat):Int)+(k:Int))=some (je p k):=by rw[aY (by rw[dY];exact hk),yZ]
  have w:i64.wrap (i64.wrap ((i:Int)+(p.length:Int)) -(k:Int))=((i+p.length -k:Nat):Int):=by rw[dS (x:=(i:Int)+(p.length:Int)),dS (by omega) (by omega)];omega
  have dz:decide (((i+p.length -k:Nat):Int)>1)=decide (i+p.length -k>1):=by rw[jZ,aS,aS];omega
  simp only[iQ,dY,bO hk,aj,aU hi,aU hk,g1,g2,af,w,dz,CU,NT,Option.map_some,aL k];unfold Sz;cases decide (i+p.length -k>1)<;>cases Ok (je p i) (je p k)<;>rfl
 have main:∀m k,k+m=p.length->∀f,m<f->iter (iQ (gq p) (i:Int)) f (k:Int)=some (bif (List.range p.length).any λj=>decide (k<=j)&&Sz p i j then .inr (.inr (.inr false))else .inl ()):=by
  intro m
  induction m with
  |zero=>
   intro k hk f hf;obtain⟨f,rfl⟩:∃g,f=g+1:=⟨f -1,by omega⟩;have:k=p.length:=(by omega);subst this;have e:((List.range p.length).any λj=>decide (p.length<=j)&&Sz p i j)=false:=by
    rw[Bool.eq_false_iff];intro h;rw[any_eq_true]at h;obtain⟨j,h1,h2⟩:=h;rw[List.mem_range]at h1;simp only[aK,aS]at h2;omega
   rw[e];refine fF ?_;simp only[iQ,dY,bX,ak]
  |succ m ih=>
   intro k hk f hf;obtain⟨f,rfl⟩:∃g,f=g+1:=⟨f -1,by omega⟩;have hkl:k<p.length:=(by omega);have h1:=st k hkl;cases hb:Sz p i k with
   |true=>
    rw[hb]at h1;have e:((List.range p.length).any λj=>decide (k<=j)&&Sz p i j)=true:=by
     rw[any_eq_true];exact⟨k,List.mem_range.2 hkl,by simp[hb]⟩
    rw[e];exact fF h1
   |false=>
    rw[hb]at h1;rw[iH h1,ih (k+1) (by omega) f (by omega)];congr 2;rw[jZ,any_eq_true,any_eq_true];constructor
    ·rintro⟨j,j1,j2⟩;simp only[aK,aS]at j2;exact⟨j,j1,by simp only[aK,aS];exact⟨by omega,j2.2⟩⟩
    ·rintro⟨j,j1,j2⟩;simp only[aK,aS]at j2;refine⟨j,j1,?_⟩;simp only[aK,aS];refine⟨?_,j2.2⟩;rcases Nat.lt_or_ge k j with h |h
     ·omega
     ·have:j=k:=(by omega);subst this;rw[hb]at j2;simp at j2
 by_cases h2:i+2<=p.length
 ·exact main (p.length -(i+2)) (i+2) (by omega) n (by omega)
 ·obtain⟨n,rfl⟩:∃g,n=g+1:=⟨n -1,by omega⟩;have e:((List.range p.length).any λj=>decide (i+2<=j)&&Sz p i j)=false:=by
   rw[Bool.eq_false_iff];intro h;rw[any_eq_true]at h;obtain⟨j,h1,h2⟩:=h;rw[List.mem_range]at h1;simp only[aK,aS]at h2;omega
  rw[e];have d:decide (((i+2:Nat):Int)<(p.length:Int))=false:=by rw[dK];omega
  refine fF ?_;simp only[iQ,dY,d,ak]
theorem Iz{p:List dQ}(hl:p.length<=1000)(hn:2000<=n):iter (pR n (gq p)) n (0:Int)=some (bif (List.range p.length).any λi=>(List.range p.length).any λk=>decide (i+2<=k)&&Sz p i k then .inr false else .inl ()):=by
 refine Iu p.length _ () false (λ i hi=>?_) ?_ n (by omega)
 ·have w2:i64.wrap ((i:Int)+2)=((i+2:Nat):Int):=by rw[dS (by omega) (by omega)];omega
  simp only[pR,dY,bO hi,aj,w2,Iy hl hn hi,aL i];cases (List.range p.length).any λk=>decide (i+2<=k)&&Sz p i k<;>rfl
 ·simp only[pR,dY,bX,ak]
theorem Qj(p:List dQ)(hn:2000<=n):vI n p=some (Qh p):=by
 unfold vI Qh;by_cases h4:p.length<4
 ·have d1:decide ((p.length:Int)<4)=true:=by simp;omega
  have d2:decide (4<=p.length)=false:=by simp;omega
  rw[d1,d2];rfl
 ·have d1:decide ((p.length:Int)<4)=false:=by simp;omega
  have d2:decide (4<=p.length)=true:=by simp;omega
  by_cases h60:p.length>60
  ·have d3:decide ((p.length:Int)>60)=true:=(by simp;omega);have d4:decide (p.length<=60)=false:=(by simp;omega);rw[d1,d2,d3,d4];rfl
  ·have d3:decide ((p.length:Int)>60)=false:=(by simp;omega);have d4:decide (p.length<=60)=true:=(by simp;omega);have g:bo (gq p) (((0:Nat):Int)+0)=some (je p 0):=by
    have:=aY (l:=gq p) (i:=0) (by rw[dY];omega);rw[yZ]at this;exact this
   have i0:cC 0 (gq p).length=true:=by
    have:=aU (i:=0) (n:=(gq p).length) (by rw[dY];omega);simpa using this
   rw[d1,d2,d3,d4];simp only[ak,af,Aw (n:=n) (p:=p) (by omega) (by omega),Iw (n:=n) (p:=p) (by omega) hn,Bool.true_and];cases (List.range p.length).any (IP p)with
   |true=>rfl
   |false=>
    simp only[ak,d9,Iz (n:=n) (p:=p) (by omega) hn];cases (List.range p.length).any λi=>(List.range p.length).any λk=>decide (i+2<=k)&&Sz p i k with
    |true=>rfl
    |false=>
     simp only[ak,d9,i0,aj,g,af,mW];rfl
def Bb(p:List dQ)(x:Int):List Int:=((gq p).filter λs=>!ua s&&(decide (min s.ly s.mf<=x)&&decide (x<max s.ly s.mf))).map (·.pC)
def CW(x0 x1:Int):List Int->List ax
 |a::b::l=>⟨x0,a,x1,b⟩::CW x0 x1 l
 |_=>[]
def np(p:List dQ):List Int:=E3 (p.map (·.x))
def Xc(p:List dQ):List ax:=(jd (λ a b=>CW a b (j6 oc (Bb p a))) (np p)).flatten
def xZ(p:List dQ):List ax×Int:=if Qh p=true then(if (Xc p).length>200 then([],6)else(Xc p,0))else([],10)
theorem agD{p:List dQ}(h:Qh p=true):4<=p.length/\p.length<=60:=by
 unfold Qh at h;simp only[aK,aS]at h;exact⟨h.1,h.2.1⟩
theorem FM{p:List dQ}(hl:p.length<=1000)(hn:2000<=n):iter (lK p) n ((0:Int),([]:List Int))=some (p.map (·.x)):=by
 have:=fD (l:=p) (step:=lK p) (λ i (s:List Int)=>((i:Int),s)) (λ r s=>s++[r.x]) (λ s=>s) (λ i s=>s.length<=i)
  (λ i hi s hs=>?_) (λ s hs=>by simp[lK]) n (by omega) [] (aC _)
 ·rw[show ((0:Nat):Int)=0 from rfl]at this;rw[this];have gen:∀(ys:List dQ)(s:List Int),ys.foldl (λ s r=>s++[r.x]) s=s++ys.map (·.x):=by
   intro ys
   induction ys with
   |nil=>intro s;simp
   |cons y ys ih=>intro s;rw[foldl_cons,ih];simp
  congr 1;simpa using gen p []
 ·have ap:bQ s.length s.length (sub ([(p[i]).x]:List Int) 0 1).length 1 8=true:=dh (n:=1);simp only[lK,bO hi,aj,bB hi,af,ap,dN,aD];refine⟨?_,by simp;omega⟩;rw[bL (by omega)];rfl
theorem FN{p:List dQ}(hl:p.length<=1000)(hn:2000<=n)(es:List Int)(i:Nat)(hi:i<es.length):iter (lM ((),es) (gq p) (i:Int)) n ((0:Int),([]:List Int))=some (Bb p es[i]):=by
 have:=fD (l:=gq p) (step:=lM ((),es) (gq p) (i:Int)) (λ i (s:List Int)=>((i:Int),s)) (λ r s=>bif !ua r&&(decide (min r.ly r.mf<=es[i])&&decide (es[i] <max r.ly r.mf))then s++[r.pC]else s) (λ s=>s) (λ i s=>s.length<=i)
  (λ j hj s hs=>?_) (λ s hs=>by simp[lM]) n (by rw[dY];omega) [] (aC _)
 ·rw[show ((0:Nat):Int)=0 from rfl]at this;rw[this];have gen:∀(ys:List jy)(s:List Int),ys.foldl (λ s r=>bif !ua r&&(decide (min r.ly r.mf<=es[i])&&decide (es[i] <max r.ly r.mf))then s++[r.pC]else s) s=s++(ys.filter λs=>!ua s&&(decide (min s.ly s.mf<=es[i])&&decide (es[i] <max s.ly s.mf))).map (·.pC):=by
   intro ys
   induction ys with
   |nil=>intro s;simp
   |cons y ys ih=>
    intro s;rw[foldl_cons,ih,List.filter_cons];cases !ua y&&(decide (min y.ly y.mf<=es[i])&&decide (es[i] <max y.ly y.mf))<;>simp
  congr 1;exact gen (gq p) []
 ·rw[dY]at hj;have g:bo (gq p) (((0:Nat):Int)+(j:Int))=some (gq p)[j]:=aY (by rw[dY];exact hj);have ap:bQ s.length s.length (sub ([((gq p)[j]'(by rw[dY];exact hj)).pC]:List Int) 0 1).length 1 8=true:=dh (n:=1);generalize hr:(gq p)[j]'(by rw[dY];exact hj)=r at*;simp only[lM,dY,bO hj,aj,aU hj,g,af,mW,aU hi,aY hi,NT,ap,dN,aD,aL j];cases ua r<;>cases decide (min r.ly r.mf<=es[i])<;>cases decide (es[i] <max r.ly r.mf)<;>refine⟨rfl,?_⟩<;>simp<;>omega
theorem aay(x0 x1:Int):∀l:List Int,(CW x0 x1 l).length<=l.length
 |[]=>by simp[CW]
 |[_]=>by simp[CW]
 |a::b::l=>by have:=aay x0 x1 l;simp only[CW,bG];omega
theorem FO(es:List Int)(i:Nat)(hi:i+1<es.length)(he:es.length<=10000)(w2 r8:List Int)(hw:w2.length=r8.length)(hr:r8.length<=1000)(ab:List ax)(ho:ab.length<=10000000)(hn:2000<=n):
 iter (ji ((),es) (i:Int) w2 r8) n ((0:Int),ab)=some (ab++CW (es[i]'(by omega)) es[i+1] r8):=by
 have main:∀(m k:Nat)(ab:List ax),k+m=r8.length->ab.length<=10000000+k->∀f,m<f->iter (ji ((),es) (i:Int) w2 r8) f ((k:Int),ab)=some (ab++CW (es[i]'(by omega)) es[i+1] (r8.drop k)):=by
  intro m
  induction m using Nat.strongRecOn with
  |ind m ih=>
   intro k ab hk hko f hf;obtain⟨f,rfl⟩:∃g,f=g+1:=⟨f -1,by omega⟩;have w1:i64.wrap ((k:Int)+1)=((k+1:Nat):Int):=bL (by omega);have w3:i64.wrap ((k:Int)+2)=((k+2:Nat):Int):=(by rw[dS (by omega) (by omega)];omega);have w4:i64.wrap ((i:Int)+1)=((i+1:Nat):Int):=bL (by omega);by_cases h2:k+1<r8.length
   ·have d:decide (((k+1:Nat):Int)<(w2.length:Int))=true:=(by rw[hw];exact bO h2);have ap:bQ ab.length ab.length (sub ([(ax.mk (es[i]'(by omega)) (r8[k]'(by omega)) es[i+1] r8[k+1])]:List ax) 0 1).length 1 32=true:=dh (n:=1);have st:ji ((),es) (i:Int) w2 r8 ((k:Int),ab)=some (.inl (((k+2:Nat):Int),ab++[ax.mk (es[i]'(by omega)) (r8[k]'(by omega)) es[i+1] r8[k+1]])):=by
     simp only[ji,w1,w3,w4,d,aj,aU (show i<es.length by omega),aY (show i<es.length by omega),af,aU (show k<w2.length by omega),aY (show k<r8.length by omega),aU hi,aY hi,aU (show k+1<w2.length by omega),aY h2,ap,dN,aD];rfl
    have dr:r8.drop k=r8[k]::r8[k+1]::r8.drop (k+2):=(by rw[List.drop_eq_getElem_cons (by omega),List.drop_eq_getElem_cons h2]);rw[iH st,ih (m -2) (by omega) (k+2) _ (by omega) (by rw[dL,length_singleton];omega) f (by omega),dr];simp[CW]
   ·have d:decide (((k+1:Nat):Int)<(w2.length:Int))=false:=(by rw[hw,dK];omega);have e:CW (es[i]'(by omega)) es[i+1] (r8.drop k)=[]:=by
     have hl:(r8.drop k).length<=1:=by rw[length_drop];omega
     match r8.drop k,hl with
     |[],_=>rfl
     |[_],_=>rfl
     |_::_::_,h=>simp at h
    rw[e,append_nil];refine fF ?_;simp only[ji,w1,d,ak,aD,aj]
 have:=main r8.length 0 ab (by omega) (by omega) n (by omega);rw[show ((0:Nat):Int)=0 from rfl,List.drop_zero]at this;exact this
theorem ani(p:List dQ):(np p).length<=p.length:=by
 have h:=rC (j6 oc (p.map (·.x)));rw[eH,length_map]at h;exact h
theorem Xd(p:List dQ)(x:Int):(Bb p x).length<=p.length:=by
 unfold Bb;rw[length_map,<- dY p];exact length_filter_le _ _
theorem IA{α:Type}(b:Nat):∀l:List (List α),(∀ x∈l,x.length<=b)->l.flatten.length<=l.length*b
 |[],_=>by simp
 |x::l,h=>by
  have h1:=IA b l λy hy=>h y (eG _ hy);have h2:=h x List.mem_cons_self;rw[List.flatten_cons,dL,bG,Nat.add_mul];omega
theorem FP{p:List dQ}(hl:p.length<=1000)(hn:2000<=n):
 iter (lN n ((),np p) (gq p)) n ((0:Int),([]:List ax))=some (Xc p):=by
 have hx:=ani p;obtain⟨p1,p2⟩:=rT (λ a b=>CW a b (j6 oc (Bb p a))) (np p)
 let C:=jd (λ a b=>CW a b (j6 oc (Bb p a))) (np p)
 have hC:C.length=(np p).length -1:=p1;have cl:∀c∈C,c.length<=1000:=by
  intro c hc;obtain⟨i,hi,rfl⟩:=mem_iff_getElem.1 hc;have:=p2 i (by omega) hi;show(C[i]).length<=1000;rw[show C[i]=_ from this];have h1:=aay (np p)[i] (np p)[i+1] (j6 oc (Bb p (np p)[i]));rw[eH]at h1;have h2:=Xd p (np p)[i];omega
 have bl:∀i,((C.take i).flatten).length<=1000*1000:=by
  intro i;have h1:=IA 1000 (C.take i) λx hx=>cl x (List.mem_of_mem_take hx);have h2:(C.take i).length<=1000:=by rw[length_take];omega
  exact Nat.le_trans h1 (Nat.mul_le_mul_right _ h2)
 have main:=mF (step:=lN n ((),np p) (gq p)) (λ i=>((i:Int),(C.take i).flatten)) C.length (Xc p) (λ i hi=>?_) ?_ n (by omega)
 ·simpa using main
 ·have hi2:i+1<(np p).length:=by omega
  have hw:i64.wrap ((((np p).length:Nat):Int) -1)=(C.length:Int):=by rw[dS (by omega) (by omega)];omega
  have bi:=bl i;have cr:=Xd p (np p)[i];have e:C.take (i+1)=C.take i++[CW (np p)[i] (np p)[i+1] (j6 oc (Bb p (np p)[i]))]:=by
   rw[gF hi];congr 2;exact p2 i hi2 hi
  simp only[lN,hw,bO hi,aj,length_nil,aD,FN hl hn (np p) i (by omega),af];rw[o7 (by omega) (by omega)];simp only[af];rw[FO (np p) i hi2 (by omega) (Bb p (np p)[i]) (j6 oc (Bb p (np p)[i])) (by rw[eH]) (by rw[eH];omega) _ (by omega) hn];simp only[af,aD,aj,e,List.flatten_append,List.flatten_cons,List.flatten_nil,append_nil,aL i]
 ·have hw:i64.wrap ((((np p).length:Nat):Int) -1)=(((np p).length:Nat):Int) -1:=dS (by omega) (by omega);have d:decide ((C.length:Int)<(((np p).length:Nat):Int) -1)=false:=by rw[dK];omega
  simp only[lN,hw,d,ak,aD,aj,List.take_length];rfl
theorem Ob(p:List dQ)(hn:2000<=n):tT n p=some (xZ p):=by
 unfold tT xZ;rw[Qj p hn];simp only[af];cases hr:Qh p with
 |false=>rfl
 |true=>
  have⟨_,hl⟩:=agD hr;simp only[Bool.not_true,ak,length_nil,aD,aj,FM (n:=n) (p:=p) (by omega) hn,af,if_true];rw[o7 (by rw[length_map];omega) (by rw[length_map];omega)];simp only[af,eH,aD,aj];rw[uq (by rw[eH,length_map];omega) (by rw[eH,length_map];omega)];simp only[af,Aw (n:=n) (p:=p) (by omega) (by omega)];have hE:gH (j6 oc (p.map (·.x)))=np p:=rfl;rw[hE,FP (by omega) hn];simp only[af,bZ,aD,aj];by_cases ra:(Xc p).length>200
  ·have:decide ((((Xc p).length:Nat):Int)>200)=true:=(by simp;omega);rw[this,aX ra];rfl
  ·have:decide ((((Xc p).length:Nat):Int)>200)=false:=(by simp;omega);rw[this,aQ ra];rfl
theorem ael(p:List dQ):(xZ p).1.length<=200:=by
 unfold xZ;split
 ·split
  ·simp
  ·simp;omega
 ·simp
def ao7(a b:ax):Int:=bif(!ej a || !ej b)then -1 else max (max 0 (i64.wrap ((max a.x0 b.x0) -(min a.x1 b.x1)))) (i64.wrap ((max a.y0 b.y0) -(min a.y1 b.y1)))
theorem alF(a b:ax):MY a b=some (ao7 a b):=by
 unfold MY ao7;rw[iT,iT];simp only[af];cases ej a<;>cases ej b<;>rfl
def MM:bU:=bU.mk 0 0 [] []
def jo(land:List bU)(id:Int):bU×Bool:=match land.find? λt=>t.id==id with
 |some t=>(t,true)
 |none=>(MM,false)
theorem Lc{α:Type}(p:α->Bool)(l:List α):(∃ (i:Nat) (h:i<l.length),nT p l=some i/\l.find? p=some l[i])\/(nT p l=none/\l.find? p=none):=by
 rcases Ed p l with ⟨i,hi,h1,h2,h3⟩ |⟨h1,h2⟩
 ·refine .inl ⟨i,hi,h1,?_⟩;rw[List.find?_eq_some_iff_getElem];exact⟨h2,i,hi,rfl,λj hj=>by simpa using h3 j hj⟩
 ·refine .inr ⟨h1,?_⟩;rw[List.find?_eq_none];intro x hx;rw[h2 x hx];simp
def ao8(t:cB)(name:ByteArray):Int:=match t.rows.find? λe=>ByteArray.toList e.name==ByteArray.toList name with
 |some e=>e.n
 |none=>t.sk
theorem Xe{α:Type}(p:α->Bool)(l:List α):(∃ (i:Nat) (h:i<l.length),xG p l=(i:Int)/\l.find? p=some l[i])\/(xG p l= -1/\l.find? p=none):=by
 rcases Lc p l with ⟨i,hi,h1,h2⟩ |⟨h1,h2⟩
 ·exact .inl ⟨i,hi,by simp[xG,h1],h2⟩
 ·exact .inr ⟨by simp[xG,h1],h2⟩
def alG:List ByteArray:=[⟨#[104,111,109,101]⟩,⟨#[115,104,111,112]⟩,⟨#[119,111,114,107]⟩,⟨#[112,97,114,107]⟩,⟨#[112,108,97,110,116]⟩,⟨#[104,97,108,108]⟩]
def nameOf(use:Int):Option ByteArray:=bo alG use
theorem Oc{V O:Type}{step:V->Option (V⊕O)}(R:Nat->V->Prop)(N:Nat)(Q:O->Prop)(h:∀i v,i<N->R i v->∃v',step v=some (.inl v')/\R (i+1) v')(hN:∀v,R N v->∃o,step v=some (.inr o)/\Q o):
 ∀n,N<n->∀v,R 0 v->∃o,iter step n v=some o/\Q o:=by
 have main:∀k i n v,i+k=N->k<n->R i v->∃o,iter step n v=some o/\Q o:=by
  intro k
  induction k with
  |zero=>
   intro i n v hi hn hR;obtain⟨m,rfl⟩:∃m,n=m+1:=⟨n -1,by omega⟩;have:i=N:=(by omega);subst this;have⟨o,h1,h2⟩:=hN v hR;exact⟨o,fF h1,h2⟩
  |succ k ih=>
   intro i n v hi hn hR;obtain⟨m,rfl⟩:∃m,n=m+1:=⟨n -1,by omega⟩;obtain⟨v',h1,h2⟩:=h i v (by omega) hR;obtain⟨o,h3,h4⟩:=ih (i+1) m v' (by omega) (by omega) h2;exact⟨o,by rw[iH h1,h3],h4⟩
 intro n hn v hR;exact main N 0 n v (by omega) hn hR
def Bc(z:dO):List ax:=if (xZ z.corners).2=0 then(xZ z.corners).1 else []
theorem agE(z:dO):(Bc z).length<=200:=by
 unfold Bc;split
 ·exact ael _
 ·simp
theorem SB(z:dO)(hn:2000<=n):xP n z=some (Bc z):=by
 unfold xP Bc;rw[Ob _ hn];simp only[af,bZ,aD,aj];by_cases h:(xZ z.corners).2=0
 ·have:((xZ z.corners).2 !=0)=false:=by simp[h]
  rw[this,aX h];rfl
 ·have:((xZ z.corners).2 !=0)=true:=by simp[h]
  rw[this,aQ h];rfl
def Fv(a b:ax):ax:=⟨max a.x0 b.x0,max a.y0 b.y0,min a.x1 b.x1,min a.y1 b.y1⟩
theorem EM(a:ax):sG a=some (bif ej a then(a,true)else(⟨0,0,0,0⟩,false)):=by
 unfold sG;rw[iT];simp only[af,NT]
theorem y7(a b:ax):sH a b=some (bif ej a&&(ej b&&ej (Fv a b))then(Fv a b,true)else(⟨0,0,0,0⟩,false)):=by
 unfold sH;rw[iT,iT];simp only[af,NT];rw[show ax.mk (max a.x0 b.x0) (max a.y0 b.y0) (min a.x1 b.x1) (min a.y1 b.y1)=Fv a b from rfl,EM];simp only[af];generalize ej (Fv a b)=c;cases ej a<;>cases ej b<;>cases c<;>rfl
def J1(r:ax):Int:=i64.wrap (i64.wrap (r.x1 -r.x0)*i64.wrap (r.y1 -r.y0))
theorem CX{r:ax}(h:ej r=true):oZ r=some (J1 r):=by
 unfold oZ;rw[EM,h];rfl
def Xf(x:ax)(n:Int)(y:ax):Int:=bif ej x&&(ej y&&ej (Fv x y))then i64.wrap (n+J1 (Fv x y))else n
def EN(a b:List ax):Int:=a.foldl (λ n x=>b.foldl (Xf x) n) 0
theorem anj{α β:Type}(c:Bool)(a:α)(u v:β):(bif c then(a,u)else(a,v)).1=a:=by cases c<;>rfl
theorem IB(b:List ax)(x:ax)(hb:b.length<=1000)(hn:2000<=n)(m u v:Int):∃o,iter (pU n b x) n (m,(0:Int),u,v)=some o/\o.1=b.foldl (Xf x) m:=by
 refine Oc (λ i (w:Int×Int×Int×Int)=>w.2.1=(i:Int)/\w.1=(b.take i).foldl (Xf x) m) b.length (λ (o:Int×Int×Int)=>o.1=b.foldl (Xf x) m) (λ i w hi hR=>?_) (λ w hR=>?_) n (by omega) _ ⟨rfl,rfl⟩
 ·obtain⟨w1,w2,w3,w4⟩:=w;obtain⟨h1,h2⟩:=hR;simp only at h1 h2;subst h1;have e:(b.take (i+1)).foldl (Xf x) m=Xf x w1 b[i]:=by rw[gF hi,List.foldl_append,<- h2];rfl
  simp only[pU,bO hi,aj,bB hi,af,y7];have e0:Xf x w1 b[i]=bif ej x&&(ej b[i]&&ej (Fv x b[i]))then i64.wrap (w1+J1 (Fv x b[i]))else w1:=rfl;rw[e0]at e;cases hc:ej x&&(ej b[i]&&ej (Fv x b[i]))with
  |false=>
   rw[hc]at e;simp only[ak,Bool.not_false,aj,af];exact⟨_,rfl,bL (by omega),e.symm⟩
  |true=>
   rw[hc]at e;have hcc:ej (Fv x b[i])=true:=by
    revert hc;generalize ej (Fv x b[i])=c;cases c
    ·cases ej x<;>cases ej b[i]<;>simp
    ·simp
   simp only[aj,Bool.not_true,ak,CX hcc,af,kE];rw[show ∀u v:Int,sub [u,v] 0 2=[u,v]from λ_ _=>rfl,WV _ _ (by omega)];simp only[af,NT];simp only[show ∀u v:Int,az [u,v].length 2=true from λ_ _=>rfl,aj,af];refine⟨_,rfl,aL i,?_⟩;rw[e];exact anj _ _ _ _
 ·obtain⟨w1,w2,w3,w4⟩:=w;obtain⟨h1,h2⟩:=hR;simp only at h1 h2;subst h1;simp only[pU,bX,ak];exact⟨_,rfl,by rw[h2,List.take_length]⟩
theorem Qk(a b:List ax)(ha:a.length<=1000)(hb:b.length<=1000)(hn:2000<=n):∃q,vJ n a b=some (EN a b,q):=by
 unfold vJ;obtain⟨o,h1,h2⟩:=Oc (step:=pV n a b) (λ i (w:Int×Int×Int×Int)=>w.2.1=(i:Int)/\w.1=(a.take i).foldl (λ n x=>b.foldl (Xf x) n) 0) a.length (λ (o:Int×Int×Int)=>o.1=EN a b) (λ i w hi hR=>by
  obtain⟨w1,w2,w3,w4⟩:=w;obtain⟨h1,h2⟩:=hR;simp only at h1 h2;subst h1;have⟨o,g1,g2⟩:=IB (n:=n) b a[i] hb hn w1 w3 w4;obtain⟨o1,o2,o3⟩:=o;simp only[pV,bO hi,aj,bB hi,af,g1];refine⟨_,rfl,bL (by omega),?_⟩;simp only at g2;rw[gF hi,List.foldl_append,<- h2,g2];rfl) (λ w hR=>by
  obtain⟨w1,w2,w3,w4⟩:=w;obtain⟨h1,h2⟩:=hR;simp only at h1 h2;subst h1;simp only[pV,bX,ak];exact⟨_,rfl,by rw[h2,List.take_length];rfl⟩) n (by omega) (0,0,1048576,0) ⟨rfl,rfl⟩
 obtain⟨o1,o2,o3⟩:=o;simp only at h2;subst h2;exact⟨_,by rw[h1];rfl⟩
def yc(zs:List dO)(area:List ax):List Int:=bif cR area then zs.map λz=>EN area (Bc z)else []
theorem Ql(p:bn)(a:List ax)(hz:p.zones.length<=100)(ha:a.length<=900)(hn:2000<=n):vK n p a=some (yc p.zones a):=by
 unfold vK yc;rw[lV (by omega) (by omega) (by omega)];simp only[af];cases cR a with
 |false=>rfl
 |true=>
  have:=fD (l:=p.zones) (step:=pW n p a) (λ i (s:List Int)=>((i:Int),s)) (λ z s=>s++[EN a (Bc z)]) (λ s=>s) (λ i s=>s.length<=i)
   (λ i hi s hs=>?_) (λ s hs=>by simp[pW]) n (by omega) [] (aC _)
  ·rw[show ((0:Nat):Int)=0 from rfl]at this;simp only[Bool.not_true,ak,length_nil,aD,aj,this,af,bZ];congr 1;have gen:∀(ys:List dO) (s:List Int),ys.foldl (λ s z=>s++[EN a (Bc z)]) s=s++ys.map λz=>EN a (Bc z):=by
    intro ys
    induction ys with
    |nil=>intro s;simp
    |cons y ys ih=>intro s;rw[foldl_cons,ih];simp
   exact gen p.zones []
  ·have cl:=agE p.zones[i];obtain⟨q,hq⟩:=Qk (n:=n) a (Bc p.zones[i]) (by omega) (by omega) hn;have ap:bQ s.length s.length (sub ([EN a (Bc p.zones[i])]:List Int) 0 1).length 1 8=true:=dh (n:=1);simp only[pW,bO hi,aj,bB hi,af,SB _ hn,bZ,aD,hq,ap,dN];refine⟨?_,by simp;omega⟩;rw[bL (by omega)];rfl
theorem RS(zs:List dO)(a:List ax):(yc zs a).length<=zs.length:=by
 unfold yc;cases cR a<;>simp
def xw(zs:List dO)(l:List Int)(m:Nat):Int:=(List.range m).foldl (λ (b:Int) i=>if (!((zs.getD i ⟨⟨#[]⟩,false,[]⟩).overlay)&&(decide (l.getD i 0>0)&&(decide (b<0) || decide (l.getD i 0>l.getD b.toNat 0))))=true then(i:Int)else b) (-1)
def EO(zs:List dO)(l:List Int)(i:Nat):Bool:=decide ((i:Int)=xw zs l l.length) || ((zs.getD i ⟨⟨#[]⟩,false,[]⟩).overlay&&decide (l.getD i 0>0))
def D3(zs:List dO)(area:List ax):List ByteArray:=((List.range (yc zs area).length).filter (EO zs (yc zs area))).map λi=>(zs.getD i ⟨⟨#[]⟩,false,[]⟩).name
theorem RU(zs:List dO)(l:List Int):∀m,xw zs l m= -1\/∃k:Nat,k<m/\xw zs l m=(k:Int)
 | 0=> .inl rfl
 |m+1=>by
  have ih:=RU zs l m;unfold xw;rw[List.range_succ,List.foldl_append];simp only[foldl_cons,List.foldl_nil];split
  ·exact .inr ⟨m,by omega,rfl⟩
  ·rcases ih with h |⟨k,h1,h2⟩
   ·exact .inl h
   ·exact .inr ⟨k,by omega,h2⟩
theorem IC{α:Type}{l:List α}{i:Nat}(d:α)(h:i<l.length):l.getD i d=l[i]:=by simp[h]
theorem Qm(p:bn)(l:List Int)(hl:l.length<=p.zones.length)(hz:p.zones.length<=100)(hn:2000<=n):iter (pX p l) n (((-1):Int),(0:Int))=some (xw p.zones l l.length):=by
 have main:=mF (step:=pX p l) (λ i=>(xw p.zones l i,(i:Int))) l.length (xw p.zones l l.length) (λ i hi=>?_) (by simp[pX]) n (by omega)
 ·exact main
 ·have hz':i<p.zones.length:=by omega
  have e:xw p.zones l (i+1)=if (!(p.zones[i]).overlay&&(decide (l[i]>0)&&(decide (xw p.zones l i<0) || decide (l[i]>l.getD (xw p.zones l i).toNat 0))))=true then(i:Int)else xw p.zones l i:=by
   conv=>lhs;unfold xw
   rw[List.range_succ,List.foldl_append];simp only[foldl_cons,List.foldl_nil,IC _ hz',IC _ hi];rfl
  rw[e];rcases RU p.zones l i with h |⟨k,h1,h2⟩
  ·rw[h];have d:decide ((-1:Int)<0)=true:=rfl;simp only[pX,bO hi,aj,aU hi,aY hi,af,bB hz',d,NT,Bool.true_or,Bool.and_true,aL i];cases (p.zones[i]).overlay<;>cases decide (l[i]>0)<;>rfl
  ·rw[h2];have d:decide ((k:Int)<0)=false:=(by simp);have hk:k<l.length:=(by omega);simp only[pX,bO hi,aj,aU hi,aY hi,af,bB hz',d,NT,Bool.false_or,ak,aU hk,aY hk,Int.toNat_natCast,IC _ hk,aL i];cases (p.zones[i]).overlay<;>cases decide (l[i]>0)<;>cases decide (l[i]>l[k])<;>rfl
theorem abT(p:bn)(a:List ax)(hz:p.zones.length<=100)(ha:a.length<=900)(hn:2000<=n):CO n p a=some (D3 p.zones a):=by
 unfold CO;have sl:=RS p.zones a;rw[Ql p a hz ha hn];simp only[af];rw[Qm p _ sl hz hn];simp only[af,length_nil,aD,aj];unfold D3;generalize hL:yc p.zones a=l at*
 have:=fD (l:=List.range l.length) (step:=xQ p l (xw p.zones l l.length)) (λ i (s:List ByteArray)=>((i:Int),s)) (λ i s=>bif EO p.zones l i then s++[(p.zones.getD i ⟨⟨#[]⟩,false,[]⟩).name]else s) (λ s=>s) (λ i s=>s.length<=i)
  (λ i hi s hs=>?_) (λ s hs=>by rw[List.length_range];simp[xQ]) n (by rw[List.length_range];omega) [] (aC _)
 ·rw[show ((0:Nat):Int)=0 from rfl]at this;simp only[this,af,bZ,aD,aj];congr 1;have gen:∀(ys:List Nat)(s:List ByteArray),ys.foldl (λ s i=>bif EO p.zones l i then s++[(p.zones.getD i ⟨⟨#[]⟩,false,[]⟩).name]else s) s=s++(ys.filter (EO p.zones l)).map λi=>(p.zones.getD i ⟨⟨#[]⟩,false,[]⟩).name:=by
   intro ys
   induction ys with
   |nil=>intro s;simp
   |cons y ys ih=>
    intro s;rw[foldl_cons,ih,List.filter_cons];cases EO p.zones l y<;>simp
  exact gen (List.range l.length) []
 ·rw[List.length_range]at hi;have hz':i<p.zones.length:=by omega
  rw[List.getElem_range];have ap:bQ s.length s.length (sub ([(p.zones[i]).name]:List ByteArray) 0 1).length 1 16=true:=dh (n:=1);have hb:((i:Int)==xw p.zones l l.length)=decide ((i:Int)=xw p.zones l l.length):=by rw[jZ];simp
  simp only[xQ,bO hi,aj,aU hi,aY hi,af,bB hz',hb,NT,ap,dN,aD,EO,IC _ hz',IC _ hi,aL i];cases decide ((i:Int)=xw p.zones l l.length)<;>cases (p.zones[i]).overlay<;>cases decide (l[i]>0)<;>refine⟨rfl,?_⟩<;>simp<;>omega
theorem ank(zs:List dO)(a:List ax):(D3 zs a).length<=zs.length:=by
 unfold D3;rw[length_map];have h1:=length_filter_le (EO zs (yc zs a)) (List.range (yc zs a).length);rw[List.length_range]at h1;have:=RS zs a;omega
def lf(a b:ByteArray):Bool:=ByteArray.toList a==ByteArray.toList b
theorem uO{l:List ByteArray}{a:ByteArray}(hl:l.length<1099511627776)(hn:l.length<n):fJ n l a=some (l.any (lf a)):=by
 unfold fJ;have e:qZ n l a=abA n (λ x=>ByteArray.toList a==ByteArray.toList x) l:=by kernel_rfl
 rw[e,RF hl hn,af,xH];rfl
theorem qc{l:List ByteArray}{φ:(ByteArray×Unit)->Option Bool}(p:ByteArray->Bool)(h:∀x∈l,φ (x,())=some (p x))(hl:l.length<1099511627776)(hn:l.length<n):fM n l φ=some (l.any p):=by
 unfold fM;have e:qj n l φ=wB n l φ:=by kernel_rfl
 rw[e,gD p h hl hn,af,xH]
def UE(r:bJ)(zs:List ByteArray):Bool:=(decide (r.zones=[]) || r.zones.any λz=>zs.any (lf z))&&!(r.except.any λz=>zs.any (lf z))
theorem Qn(r:bJ)(zs:List ByteArray)(h1:r.zones.length<=100)(h2:r.except.length<=100)(h3:zs.length<=100)(hn:2000<=n):qF n r zs=some (UE r zs):=by
 have hf:∀x:ByteArray,jX n x zs=some (zs.any (lf x)):=λx=>by unfold jX;rw[uO (by omega) (by omega)];rfl
 unfold qF UE;rw[qc (λ z=>zs.any (lf z)) (λ x _=>hf x) (by omega) (by omega),qc (λ z=>zs.any (lf z)) (λ x _=>hf x) (by omega) (by omega)];simp only[af,NT];have e:((r.zones.length:Int)==0)=decide (r.zones=[]):=by
  rw[jZ,beq_iff_eq,aS];constructor
  ·intro h;exact List.length_eq_zero_iff.1 (by omega)
  ·intro h;rw[h];rfl
 rw[e];cases decide (r.zones=[])<;>cases (r.zones.any λz=>zs.any (lf z))<;>cases (r.except.any λz=>zs.any (lf z))<;>rfl
def kF(zs:List ByteArray)(day:Int)(r:bJ):Bool:=decide (r.from_<=day)&&((r.j9==0 || decide (day<r.j9))&&UE r zs)
def Qo(rules:List bJ)(zs:List ByteArray)(day:Int):List Nat:=(List.range rules.length).filter λi=>(rules[i]?).any (kF zs day)
abbrev Xg(r:bJ):Prop:=r.zones.length<=100/\r.except.length<=100
theorem SC(p:bn)(zs:List ByteArray)(day:Int)(hr:∀r∈p.rules,Xg r)(hl:p.rules.length<=100)(h3:zs.length<=100)(hn:2000<=n):tV n p zs day=some ((Qo p.rules zs day).map λ(i:Nat)=>(i:Int)):=by
 unfold tV Qo
 have:=fD (l:=List.range p.rules.length) (step:=q8 n p zs day) (λ i (s:List Int)=>((i:Int),s)) (λ i s=>bif(p.rules[i]?).any (kF zs day)then s++[(i:Int)]else s) (λ s=>s) (λ i s=>s.length<=i)
  (λ i hi s hs=>?_) (λ s hs=>by rw[List.length_range];simp[q8]) n (by rw[List.length_range];omega) [] (aC _)
 ·rw[show ((0:Nat):Int)=0 from rfl]at this;simp only[length_nil,aD,aj,this,af,bZ];congr 1;have gen:∀(ys:List Nat)(s:List Int),ys.foldl (λ s (i:Nat)=>bif(p.rules[i]?).any (kF zs day)then s++[(i:Int)]else s) s=s++(ys.filter λi=>(p.rules[i]?).any (kF zs day)).map λ(i:Nat)=>(i:Int):=by
   intro ys
   induction ys with
   |nil=>intro s;simp
   |cons y ys ih=>
    intro s;rw[foldl_cons,ih,List.filter_cons];cases (p.rules[y]?).any (kF zs day)<;>simp
  exact gen (List.range p.rules.length) []
 ·rw[List.length_range]at hi;rw[List.getElem_range];obtain⟨o1,o2⟩:=hr _ (getElem_mem hi);have ap:bQ s.length s.length (sub ([(i:Int)]:List Int) 0 1).length 1 8=true:=dh (n:=1);have eg:(p.rules[i]?).any (kF zs day)=kF zs day p.rules[i]:=by rw[dJ hi];rfl
  rw[eg];simp only[q8,bO hi,aj,bB hi,af,Qn _ zs o1 o2 h3 hn,NT,ap,dN,aD,kF,aL i];cases decide ((p.rules[i]).from_<=day)<;>cases (p.rules[i]).j9==0<;>cases decide (day<(p.rules[i]).j9)<;>cases UE p.rules[i] zs<;>refine⟨rfl,?_⟩<;>simp<;>omega
def Xh(p:dV):Bool:=decide (0<=p.side/\p.side<=3)&&(decide (0<=p.base/\p.base<=4096)&&(decide (0<=p.num/\p.num<=4096)&&decide (1<=p.den/\p.den<=4096)))
theorem alH(p:dV):Xh p=true↔(0<=p.side/\p.side<=3)/\(0<=p.base/\p.base<=4096)/\(0<=p.num/\p.num<=4096)/\(1<=p.den/\p.den<=4096):=by simp only[Xh,aK,aS]
theorem SF(a b c:Int):nM a b c=some (decide (b<=a/\a<=c)):=by
 unfold nM;by_cases h1:b<=a
 ·have d:decide (b<=a)=true:=by simpa using h1
  rw[d,aj];congr 1;rw[jZ];simp[h1]
 ·have d:decide (b<=a)=false:=by simpa using h1
  rw[d,ak];congr 1;rw[jZ];simp[h1]
theorem Xi(p:dV):Al p=some (Xh p):=by
 unfold Al Xh;simp only[SF,af,NT];generalize decide (0<=p.side/\p.side<=3)=a;generalize decide (0<=p.base/\p.base<=4096)=b;generalize decide (0<=p.num/\p.num<=4096)=c;cases a<;>cases b<;>cases c<;>rfl
theorem Bd{l:List dV}{φ:(dV×Unit)->Option Bool}(p:dV->Bool)(h:∀x∈l,φ (x,())=some (p x))(hl:l.length<1099511627776)(hn:l.length<n):kJ n l φ=some (l.any p):=by
 unfold kJ;have e:rP n l φ=wB n l φ:=by kernel_rfl
 rw[e,gD p h hl hn,af,xH]
def EP(b:ax)(l:List dV):Bool:=ej b&&!(l.any λp=>!Xh p)
theorem Xj(b:ax)(l:List dV)(hl:l.length<=1000)(hn:2000<=n):Am n b l=some (EP b l):=by
 unfold Am EP;rw[iT,Bd (λ p=>!Xh p) (λ p _=>by show tX p=_;unfold tX;rw[Xi];rfl) (by omega) (by omega)];simp only[af,NT];cases ej b<;>rfl
theorem agF{a n:Int}(hn:0<n):(if Int.tmod a n<0 then Int.tdiv a n -1 else Int.tdiv a n)=a/n:=by
 have h1:=Int.mul_ediv_add_emod a n;have h2:=Int.emod_nonneg a (by omega:n≠0);have h3:=Int.emod_lt_of_pos a hn;rcases Int.le_total 0 a with h |h
 ·have e1:Int.tmod a n=a%n:=Int.tmod_eq_emod_of_nonneg h;have e2:Int.tdiv a n=a/n:=Int.tdiv_eq_ediv_of_nonneg h;rw[e1,e2,aQ (by omega)]
 ·obtain⟨b,rfl⟩:∃b,a= -b:=⟨-a,by omega⟩;have hb:0<=b:=by omega
  have e1:Int.tmod (-b) n= -(b%n):=by rw[Int.neg_tmod,Int.tmod_eq_emod_of_nonneg hb]
  have e2:Int.tdiv (-b) n= -(b/n):=by rw[Int.neg_tdiv,Int.tdiv_eq_ediv_of_nonneg hb]
  have g1:=Int.mul_ediv_add_emod b n;have g2:=Int.emod_nonneg b (by omega:n≠0);have g3:=Int.emod_lt_of_pos b hn;rw[e1,e2];by_cases hm:b%n=0
  ·rw[aQ (by omega)];have:(-b)/n= -(b/n):=by
    refine(Int.ediv_eq_iff_of_pos hn).2 ?_;constructor
    ·rw[Int.neg_mul,Int.mul_comm (b/n)];omega
    ·rw[Int.neg_mul,Int.mul_comm (b/n)];omega
   omega
  ·rw[aX (by omega)];have:(-b)/n= -(b/n) -1:=by
    refine(Int.ediv_eq_iff_of_pos hn).2 ?_;constructor
    ·rw[Int.sub_mul,Int.neg_mul,Int.mul_comm (b/n)];omega
    ·rw[Int.sub_mul,Int.neg_mul,Int.mul_comm (b/n)];omega
   omega
theorem Od{a n:Int}(hn:0<n)(ha: -4611686018427387904<=a/\a<=4611686018427387904):tY a n=some (a/n):=by
 have nz:(n !=0)=true:=by simp;omega
 have hb: -4611686018427387904<=a/n/\a/n<=4611686018427387904:=by
  constructor
  ·rw[Int.le_ediv_iff_mul_le hn];have: -4611686018427387904*n<= -4611686018427387904:=(by omega);omega
  ·rcases Int.le_total 0 a with h |h
   ·have:=Int.ediv_le_self n h;omega
   ·have:a/n<=0:=by
     have:=(Int.ediv_lt_iff_lt_mul (a:=a) (b:=1) hn).2 (by omega);omega
    omega
 have hf:=agF (a:=a) hn;have ht: -4611686018427387904<=Int.tdiv a n/\Int.tdiv a n<=4611686018427387905:=by split at hf<;>omega
 unfold tY;simp only[nz,aj];rw[dS (x:=Int.tdiv a n),dS (x:=Int.tdiv a n -1),<- hf];by_cases h:Int.tmod a n<0
 ·have d:decide (Int.tmod a n<0)=true:=by simpa using h
  rw[d,aX h];rfl
 ·have d:decide (Int.tmod a n<0)=false:=by simpa using h
  rw[d,aQ h];rfl
def Xk(b:ax)(side x y:Int):Int:=if side=0 then x -b.x0 else if side=1 then b.x1 -1 -x else if side=2 then y -b.y0 else b.y1 -1 -y
def ao9(b:ax)(p:dV)(x y:Int):Int:=p.base+p.num*Xk b p.side x y/p.den
def YW(b:ax)(l:List dV)(x y:Int):Int:=l.foldl (λ h p=>min h (ao9 b p x y)) 4096
abbrev InG(x y:Int):Prop:=(0<=x/\x<1048576)/\(0<=y/\y<1048576)
theorem aen{b:ax}(hb:ej b=true){x y:Int}(h:InG x y)(side:Int): -1048576<=Xk b side x y/\Xk b side x y<=1048576:=by
 simp only[ej,aK,aS]at hb;obtain⟨h1,h2⟩:=h;unfold Xk;split
 ·omega
 ·split
  ·omega
  ·split<;>omega
theorem ajz{a d:Int}(ha:0<=a/\a<=4096)(hd: -1048576<=d/\d<=1048576): -4294967296<=a*d/\a*d<=4294967296:=by
 have h1:a*d<=a*1048576:=Int.mul_le_mul_of_nonneg_left hd.2 ha.1;have h2:a*(-1048576)<=a*d:=Int.mul_le_mul_of_nonneg_left hd.1 ha.1;omega
theorem ajA{a n:Int}(hn:0<n)(ha: -4294967296<=a/\a<=4294967296): -4294967296<=a/n/\a/n<=4294967296:=by
 constructor
 ·rw[Int.le_ediv_iff_mul_le hn];omega
 ·rcases Int.le_total 0 a with h |h
  ·have:=Int.ediv_le_self n h;omega
  ·have:=(Int.ediv_lt_iff_lt_mul (a:=a) (b:=1) hn).2 (by omega);omega
theorem abU{b:ax}{l:List dV}{x y:Int}(hb:ej b=true)(hp:∀p∈l,Xh p=true)(h:InG x y)(hl:l.length<=1000)(hn:2000<=n):JF n b l x y=some (YW b l x y):=by
 unfold JF wX;have hr:=hb;simp only[ej,aK,aS]at hr;obtain⟨h1,h2⟩:=h;rw[dS (x:=x -b.x0),dS (x:=b.x1 -1),dS (x:=b.x1 -1 -x),dS (x:=y -b.y0),dS (x:=b.y1 -1),dS (x:=b.y1 -1 -y)];simp only[af];have:=oo (l:=l) (step:=xU b l x y ⟨x -b.x0,b.x1 -1 -x,y -b.y0,b.y1 -1 -y⟩) (λ i (s:Int)=>(s,(i:Int))) (λ p s=>min s (ao9 b p x y)) (λ s=>s) (λ i hi s=>?_) (λ s=>by simp[xU]) n (by omega) 4096
 ·rw[show ((0:Nat):Int)=0 from rfl]at this;rw[this];rfl
 ·obtain⟨s1,s2,s3,s4⟩:=(alH _).1 (hp _ (getElem_mem hi));have ib:cC (l[i]).side 4=true:=by simp[cC];omega
  have g:bo ([x -b.x0,b.x1 -1 -x,y -b.y0,b.y1 -1 -y]:List Int) (l[i]).side=some (Xk b (l[i]).side x y):=by
   have hs:(l[i]).side=0\/(l[i]).side=1\/(l[i]).side=2\/(l[i]).side=3:=(by omega);rcases hs with e |e |e |e<;>rw[e]<;>simp[bo,Xk]
  have db:=aen hb ⟨h1,h2⟩ (l[i]).side;have mb:=ajz s3 db;have dv:=ajA (n:=(l[i]).den) (by omega) mb;simp only[xU,bO hi,aj,bB hi,af,ib,g];rw[dS (x:=(l[i]).num*Xk b (l[i]).side x y),Od (by omega) (by omega)];simp only[af];rw[dS (x:=(l[i]).base+_),bL (by omega)];rfl
theorem aeo(b:ax)(l:List dV):EP b l=true↔ej b=true/\∀p∈l,Xh p=true:=by
 unfold EP;rw[aK,Bool.not_eq_true',List.any_eq_false];simp
def E7(x:fQ):Bool:=decide (x.z0<0) || (decide (x.z0>=x.z1) || (decide (x.z1>4096) || (decide (x.area=[]) || !cR x.area)))
def zr(p:Option fQ×fQ):Bool:=E7 p.2 || p.1.any λq=>decide (q.z1>p.2.z0) || (q.z1==p.2.z0&&decide (q.area=p.2.area))
def Be(s:List fQ):List (Option fQ×fQ):=(none::s.map some).zip s
def EQ(s:List fQ):Bool:=decide (s.length<=80)&&!((Be s).any zr)
theorem o9(s:List fQ):(Be s).length=s.length:=by simp[Be]
theorem ER{s:List fQ}{i:Nat}(h:i<(Be s).length):(Be s)[i]=(if h0:i=0 then none else some (s[i -1]'(by rw[o9]at h;omega)),s[i]'(by rw[o9]at h;exact h)):=by
 simp only[Be,List.getElem_zip,Prod.mk.injEq,and_true];cases i with
 |zero=>simp
 |succ i=>simp
theorem RX{s:List fQ}(ha:∀x∈s,x.area.length<=900)(hn:1000<=n):Ie n s=some (EQ s):=by
 unfold Ie EQ;by_cases h80:s.length<=80
 ·have d:decide ((s.length:Int)>80)=false:=by simp;omega
  have d2:decide (s.length<=80)=true:=by simpa using h80
  have z:∀l:List ax,(((l.length:Int))==0)=decide (l=[]):=λl=>by cases l<;>simp<;>omega
  have:=pI (l:=Be s) (step:=Ao n s) (λ i=>(i:Int)) zr () (λ _=>false) (λ i hi=>?_) ?_ n (by rw[o9];omega)
  ·rw[show ((0:Nat):Int)=0 from rfl]at this;rw[d,d2,this,<- Qi];cases nT zr (Be s)<;>rfl
  ·rw[ER];rw[o9]at hi;have hi':decide ((i:Int)<(s.length:Int))=true:=(by simpa using hi);have h1:=ha _ (getElem_mem hi);simp only[Ao,hi',aj,bB hi,af,z,lV (n:=n) (l:=s[i].area) (by omega) (by omega) hn,zr];rw[bL (by omega)];have b:((bif decide (s[i].z0<0)then some true else bif decide (s[i].z0>=s[i].z1)then some true else bif decide (s[i].z1>4096)then some true else bif decide (s[i].area=[])then some true else some (!cR s[i].area)):Option Bool)=some (E7 s[i]):=by
    unfold E7;cases decide (s[i].z0<0)<;>cases decide (s[i].z0>=s[i].z1)<;>cases decide (s[i].z1>4096)<;>cases decide (s[i].area=[])<;>rfl
   rw[b];simp only[af];cases E7 s[i]with
   |true=>simp[dw]
   |false=>
    by_cases h0:i=0
    ·subst h0;have:((((0:Nat):Int))==0)=true:=rfl;simp only[this,aj,ak,d9,dif_pos,Option.any_none,Bool.or_false]
    ·have e0:((i:Int)==0)=false:=(by simp;omega);have w:i64.wrap ((i:Int) -1)=((i -1:Nat):Int):=mO (by omega) (by omega);have h2:=ha _ (getElem_mem (show i -1<s.length by omega));simp only[e0,ak,w,bB (show i -1<s.length by omega),af,agB (n:=n) (a:=s[i -1].area) (b:=s[i].area) (by omega) (by omega),h0,dif_neg,not_false_eq_true,Option.any_some,Bool.false_or];cases decide (s[i -1].z1>s[i].z0)with
     |true=>simp[dw]
     |false=>
      cases s[i -1].z1==s[i].z0 with
      |false=>simp[dw]
      |true=>cases decide (s[i -1].area=s[i].area)<;>simp[dw]
  ·rw[o9];simp[Ao]
 ·have d:decide ((s.length:Int)>80)=true:=by simp;omega
  have d2:decide (s.length<=80)=false:=by simpa using h80
  rw[d,d2];rfl
structure alI(x:fQ):Prop where
 lo:0<=x.z0
 lt:x.z0<x.z1
 hi:x.z1<=4096
 ne:x.area≠[]
 rt:cR x.area=true
def apa(s:List fQ):Prop:=∀i (h:i+1<s.length),s[i].z1<=s[i+1].z0/\¬(s[i].z1=s[i+1].z0/\s[i].area=s[i+1].area)
theorem aer(x:fQ):E7 x=false↔alI x:=by
 unfold E7;simp only[Bool.or_eq_false_iff,dK,Bool.not_eq_false'];constructor
 ·rintro⟨h1,h2,h3,h4,h5⟩;exact⟨by omega,by omega,by omega,h4,h5⟩
 ·rintro⟨h1,h2,h3,h4,h5⟩;exact⟨by omega,by omega,by omega,h4,h5⟩
theorem Xl(s:List fQ):EQ s=true↔s.length<=80/\(∀ x∈s,alI x)/\apa s:=by
 unfold EQ;rw[aK,aS,Bool.not_eq_true',List.any_eq_false];refine and_congr_right λ_=>?_;constructor
 ·intro h;have key:∀i (hi:i<s.length),zr ((Be s)[i]'(by rw[o9];exact hi))=false:=λi hi=>by
   have:=h _ (getElem_mem (show i<(Be s).length by rw[o9];exact hi));simpa using this
  refine⟨λ x hx=>?_,λi hi=>?_⟩
  ·obtain⟨i,hi,rfl⟩:=mem_iff_getElem.1 hx;have:=key i hi;rw[ER]at this;unfold zr at this;rw[Bool.or_eq_false_iff]at this;exact(aer _).1 this.1
  ·have:=key (i+1) hi;rw[ER]at this;unfold zr at this;rw[Bool.or_eq_false_iff]at this;have h2:=this.2;simp only[Nat.succ_ne_zero,dif_neg,not_false_eq_true,Option.any_some,Nat.add_sub_cancel,Bool.or_eq_false_iff,dK,Bool.and_eq_false_iff,beq_eq_false_iff_ne]at h2;refine⟨by omega,λ⟨e1,e2⟩=>?_⟩;rcases h2.2 with h3 |h3
   ·exact h3 e1
   ·exact h3 e2
 ·rintro⟨h1,h2⟩ p hp;obtain⟨i,hi,rfl⟩:=mem_iff_getElem.1 hp;rw[ER];rw[o9]at hi;unfold zr;have hb:=(aer _).2 (h1 _ (getElem_mem hi));by_cases h0:i=0
  ·simp[h0]at hb ⊢;exact hb
  ·obtain⟨j,rfl⟩:∃j,i=j+1:=⟨i -1,by omega⟩;have⟨n1,n2⟩:=h2 j hi;simp only[Nat.succ_ne_zero,dif_neg,not_false_eq_true,Option.any_some,Nat.add_sub_cancel];rw[hb];simp only[Bool.false_or,Bool.or_eq_true,aS,aK,beq_iff_eq];rintro (h |h)
   ·omega
   ·exact n2 h
theorem sK{l:List fQ}{φ:(fQ×Unit)->Option Bool}(p:fQ->Bool)(h:∀x∈l,φ (x,())=some (p x))(hl:l.length<1099511627776)(hn:l.length<n):jb n l φ=some (l.any p):=by
 unfold jb tZ;have:=pI (l:=l) (step:=lU l φ) (λ i=>(i:Int)) p () (λ i=>(i:Int)) (λ i hi=>?_) (by simp[lU]) n hn
 ·rw[show ((0:Nat):Int)=0 from rfl]at this;rw[this,<- Qi];cases nT p l with
  |none=>rfl
  |some i=>simp<;>omega
 ·have hi':decide ((i:Int)<(l.length:Int))=true:=by simpa using hi
  simp only[lU,hi',aj,bB hi,af,h _ (getElem_mem hi)];rw[bL (by omega)];cases p l[i]<;>rfl
def LS(s:List fQ)(lot:Int)(e:jh):Bool:=e.lot==lot&&(cR e.area&&s.any λc=>decide (c.z1>e.top)&&Kd c.area e.area)
def J0(l:List jh)(lot:Int)(s:List fQ):Bool:=EQ s&&!(l.any (LS s lot))
theorem YX{l:List jh}{lot:Int}{s:List fQ}(hl:l.length<=900)(he:∀e∈l,e.area.length<=900)(ha:∀x∈s,x.area.length<=900)(hn:1000<=n):Ez n l lot s=some (J0 l lot s):=by
 unfold Ez J0;rw[RX ha hn];simp only[af];cases hr:EQ s with
 |false=>rfl
 |true=>
 have l80:=((Xl s).1 hr).1;have:=pI (l:=l) (step:=vN n l lot s) (λ i=>(i:Int)) (LS s lot) () (λ _=>false) (λ i hi=>?_) (by simp[vN]) n (by omega)
 ·rw[show ((0:Nat):Int)=0 from rfl]at this;simp only[Bool.not_true,ak];rw[this,<- Qi];cases nT (LS s lot) l<;>rfl
 ·have hi':decide ((i:Int)<(l.length:Int))=true:=by simpa using hi
  have h1:=he _ (getElem_mem hi);have cf:=sK (n:=n) (l:=s) (φ:=λy:fQ×Unit=>qI n y.1 l[i]) (λ c=>decide (c.z1>l[i].top)&&Kd c.area l[i].area) (λ c hc=>by
   have:=ha c hc;show qI n c l[i]=_;unfold qI;rw[agA (by omega) (by omega) (by omega) (by omega)];cases decide (c.z1>l[i].top)<;>rfl) (by omega) (by omega)
  simp only[vN,hi',aj,bB hi,af,lV (n:=n) (l:=l[i].area) (by omega) (by omega) hn,cf];rw[bL (by omega)];unfold LS;cases h2:l[i].lot==lot with
  |false=>
   have:(l[i].lot !=lot)=true:=(by simp[bne,h2]);simp[this,dw]
  |true=>
   have:(l[i].lot !=lot)=false:=(by simp[bne,h2]);simp only[this,ak,af];cases cR l[i].area with
   |false=>simp[dw]
   |true=>cases s.any λc=>decide (c.z1>l[i].top)&&Kd c.area l[i].area<;>simp[dw]
theorem aeu(r:ax):ej r=true↔(0<=r.x0/\r.x0<r.x1/\r.x1<=1048576)/\(0<=r.y0/\r.y0<r.y1/\r.y1<=1048576):=by simp only[ej,aK,aS];omega
theorem JZ{b:ax}{l:List dV}(r:ax)(x:Int)(hb:ej b=true)(hp:∀p∈l,Xh p=true)(hr:ej r=true)(hx:0<=x/\x<1048576)(hl:l.length<=1000)(hn:2000<=n)(v:Int):
 iter (nX n b l r x) n (v,(0:Int))=some (min (min v (YW b l x r.y0)) (YW b l x (r.y1 -1))):=by
 have ho:=(aeu r).1 hr;have w:i64.wrap (r.y1 -1)=r.y1 -1:=dS (by omega) (by omega);have:=oo (l:=[r.y0,r.y1 -1]) (step:=nX n b l r x) (λ i (s:Int)=>(s,(i:Int))) (λ y m=>min m (YW b l x y)) (λ s=>s) (λ i hi s=>?_) (λ s=>by simp[nX]) n (by simp;omega) v
 ·rw[show ((0:Nat):Int)=0 from rfl]at this;exact this
 ·have h2:i<2:=by simpa using hi
  have yb:0<=([r.y0,r.y1 -1]:List Int)[i]/\([r.y0,r.y1 -1]:List Int)[i] <1048576:=by
   rcases i with _ |_ |i
   ·simp only[List.getElem_cons_zero];omega
   ·simp only[List.getElem_cons_succ,List.getElem_cons_zero];omega
   ·omega
  simp only[nX,show decide ((i:Int)<2)=true from decide_eq_true (by omega),bO h2,aj,aU h2,w,aY hi,af,abU hb hp ⟨hx,yb⟩ hl hn,aL i]
def V0(b:ax)(l:List dV)(v:Int)(r:ax):Int:=min (min (min (min v (YW b l r.x0 r.y0)) (YW b l r.x0 (r.y1 -1))) (YW b l (r.x1 -1) r.y0)) (YW b l (r.x1 -1) (r.y1 -1))
theorem J2{b:ax}{l:List dV}(r:ax)(hb:ej b=true)(hp:∀p∈l,Xh p=true)(hr:ej r=true)(hl:l.length<=1000)(hn:2000<=n)(v:Int):
 iter (nY n b l r) n (v,(0:Int))=some (V0 b l v r):=by
 have ho:=(aeu r).1 hr;have w:i64.wrap (r.x1 -1)=r.x1 -1:=dS (by omega) (by omega);have:=oo (l:=[r.x0,r.x1 -1]) (step:=nY n b l r) (λ i (s:Int)=>(s,(i:Int))) (λ x m=>min (min m (YW b l x r.y0)) (YW b l x (r.y1 -1))) (λ s=>s) (λ i hi s=>?_) (λ s=>by simp[nY]) n (by simp;omega) v
 ·rw[show ((0:Nat):Int)=0 from rfl]at this;exact this
 ·have h2:i<2:=by simpa using hi
  have xb:0<=([r.x0,r.x1 -1]:List Int)[i]/\([r.x0,r.x1 -1]:List Int)[i] <1048576:=by
   rcases i with _ |_ |i
   ·simp only[List.getElem_cons_zero];omega
   ·simp only[List.getElem_cons_succ,List.getElem_cons_zero];omega
   ·omega
  simp only[nY,show decide ((i:Int)<2)=true from decide_eq_true (by omega),bO h2,aj,aU h2,w,aY hi,af,JZ r _ hb hp hr xb hl hn,aL i]
def LR(b:ax)(l:List dV)(a:List ax):Int:=a.foldl (V0 b l) 4096
theorem SG{b:ax}{l:List dV}{a:List ax}(hb:ej b=true)(hp:∀p∈l,Xh p=true)(ha:∀r∈a,ej r=true)(hal:a.length<=1000)(hl:l.length<=1000)(hn:2000<=n):xV n b l a=some (LR b l a):=by
 unfold xV;have:=oo (l:=a) (step:=rf n b l a) (λ i (s:Int)=>(s,(i:Int))) (λ r m=>V0 b l m r) (λ s=>s) (λ i hi s=>?_) (λ s=>by simp[rf]) n (by omega) 4096
 ·rw[show ((0:Nat):Int)=0 from rfl]at this;rw[this];rfl
 ·simp only[rf,bO hi,aj,bB hi,af,J2 a[i] hb hp (ha _ (getElem_mem hi)) hl hn,aL i]
theorem ano(r:ax):ej r=true↔(0<=r.x0/\r.x0<r.x1/\r.x1<=1048576)/\(0<=r.y0/\r.y0<r.y1/\r.y1<=1048576):=by simp only[ej,aK,aS];omega
abbrev DA(t:bU):Prop:=t.area.length<=900/\t.from_.length*8<=140737488355328
theorem agH{t:bU}(h:DA t):NF t=some t:=by
 unfold NF;have h2:=h.2;rw[Qc (by omega),af,show Em t.from_=some t.from_ from RG (b:=8) (by omega) (by simp only[maxLen];omega),af];simp only[bZ,aD,aj]
theorem ajC{land:List bU}{id:Int}(h:∀t∈land,DA t)(hl:land.length<1099511627776)(hn:land.length<n):NG n land id=some (jo land id):=by
 unfold NG;have:=pI (l:=land) (step:=En land id) (λ i=>(i:Int)) (λ t=>t.id==id) () (λ i=>(land.getD i MM,true)) (λ i hi=>?_) ?_ n hn
 ·rw[show ((0:Nat):Int)=0 from rfl]at this;rw[this];unfold jo;rcases Lc (λ t:bU=>t.id==id) land with ⟨i,hi,h1,h2⟩ |⟨h1,h2⟩
  ·rw[h1,h2];simp[hi]
  ·rw[h1,h2];rfl
 ·simp only[En,bO hi,aj,bB hi,af,agH (h _ (getElem_mem hi))];cases land[i].id==id with
  |true=>simp[hi]
  |false=>simp only[ak];rw[bL (by omega)]
 ·simp[En]
theorem aaz{land:List bU}(h:∀t∈land,DA t)(id:Int):DA (jo land id).1:=by
 unfold jo;split
 ·rename_i t ht;exact h t (List.mem_of_find?_eq_some ht)
 ·simp[DA,MM]
structure apr(t:bT):Prop where
 rules:t.aE.length<=20
 PM:∀r∈t.aE,Xg r
 zones:t.b7.length<=20
 land:t.land.length<=20
 lots:∀l∈t.land,DA l
 bx:t.bx.length<=5
 apu:∀e∈t.bx,e.area.length<=10
theorem RY{α:Type}(p:α->Bool):∀l:List α,((List.range l.length).filter λi=>(l[i]?).any p).filterMap (λ i=>l[i]?)=l.filter p
 |[]=>rfl
 |a::l=>by
  have ih:=RY p l;rw[bG,List.range_succ_eq_map,List.filter_cons,List.filter_cons];have e:(List.filter (λ i=>((a::l)[i]?).any p) (List.map Nat.succ (List.range l.length))).filterMap (λ i=>(a::l)[i]?)=l.filter p:=by
   rw[List.filter_map,List.filterMap_map];exact ih
  cases hp:p a with
  |true=>simp[hp];simpa using e
  |false=>simp[hp];simpa using e
def Gk(a r:ax):ax:=⟨min a.x0 r.x0,min a.y0 r.y0,max a.x1 r.x1,max a.y1 r.y1⟩
def ail:List ax->ax
 |[]=>⟨0,0,0,0⟩
 |r::l=>l.foldl Gk r
def JL(a:List ax):ax×Bool:=bif decide (a≠[])&&cR a then(ail a,true)else(⟨0,0,0,0⟩,false)
theorem aev{a:List ax}(ha:a≠[])(hv:∀r∈a,ej r=true)(hl:a.length<=900)(hn:2000<=n):Nz n a=some (ail a,true):=by
 unfold Nz;have:=oo (l:=a.zip (List.range a.length)) (step:=Ad a) (λ i (s:Bool×Int×Int×Int×Int)=>(s.1,(i:Int),s.2)) (λ p s=>bif !s.1 then(true,p.1.x0,p.1.y0,p.1.x1,p.1.y1)else(s.1,min s.2.1 p.1.x0,min s.2.2.1 p.1.y0,max s.2.2.2.1 p.1.x1,max s.2.2.2.2 p.1.y1)) (λ s=>s) (λ i hi s=>?_) (λ s=>?_) n (by simp;omega) (false,0,0,0,0)
 ·rw[show ((0:Nat):Int)=0 from rfl]at this;simp only at this;rw[this];cases a with
  |nil=>exact absurd rfl ha
  |cons r l=>
   have gen:∀(l:List ax) (k:List Nat) (s:ax),l.length<=k.length->(l.zip k).foldl (λ (s:Bool×Int×Int×Int×Int) p=>bif !s.1 then(true,p.1.x0,p.1.y0,p.1.x1,p.1.y1)else(s.1,min s.2.1 p.1.x0,min s.2.2.1 p.1.y0,max s.2.2.2.1 p.1.x1,max s.2.2.2.2 p.1.y1)) (true,s.x0,s.y0,s.x1,s.y1)=(true,(l.foldl Gk s).x0,(l.foldl Gk s).y0,(l.foldl Gk s).x1,(l.foldl Gk s).y1):=by
    intro l
    induction l with
    |nil=>intro k s _;rfl
    |cons r l ih=>
     intro k s hk;cases k with
     |nil=>simp at hk
     |cons j k=>
      rw[List.zip_cons_cons,foldl_cons,foldl_cons];exact ih k (Gk s r) (by simpa using hk)
   rw[bG,List.range_succ_eq_map,List.zip_cons_cons,foldl_cons];simp only[Bool.not_false,aj];rw[gen l _ r (by simp)];rfl
 ·have hi':i<a.length:=by simpa using hi
  obtain⟨s1,s2,s3,s4,s5⟩:=s;have ok:=hv _ (getElem_mem hi');simp only[Ad,bO hi',aj,bB hi',af,iT,ok,Bool.not_true,ak,NT,List.getElem_zip,aL i]
 ·obtain⟨s1,s2,s3,s4,s5⟩:=s;have:(a.zip (List.range a.length)).length=a.length:=by simp
  simp only[this,Ad,bX,ak]
theorem Oe(a:List ax)(hl:a.length<=900)(hn:2000<=n):CG n a=some (JL a):=by
 unfold CG JL;cases a with
 |nil=>rfl
 |cons r l=>
  have e:((((r::l).length:Nat):Int)==0)=false:=by simp;omega
  have e2:decide (r::l≠[])=true:=by simp
  rw[lV (by omega) (by omega) (by omega),e,e2];simp only[ak,af,Bool.true_and];cases hr:cR (r::l)with
  |false=>rfl
  |true=>
   simp only[Bool.not_true,ak];rw[aev (by simp) (uy hr).1 hl hn];rfl
theorem p9{V O:Type}{step:V->Option (V⊕O)}(f:Nat->V){s:V}(N:Nat)(o:O)(h0:s=f 0)
 (h1:∀i,i<N->step (f i)=some (.inl (f (i+1)))) (h2:step (f N)=some (.inr o)) (n:Nat) (hn:N<n):iter step n s=some o:=by rw[h0];exact mF f N o h1 h2 n hn
def tb(f:Nat->Nat->Bool):List Bool:=(List.range 144).map λi=>f (i/12) (i%12)
def upd(f:Nat->Nat->Bool)(a b:Nat)(v:Bool):Nat->Nat->Bool:=λx y=>if x=a/\y=b then v else f x y
inductive Tc(e:Nat->Nat->Bool):Nat->Nat->Prop
 |one {a b:Nat}:a<12->b<12->e a b=true->Tc e a b
 |trans {a b c:Nat}:Tc e a b->Tc e b c->Tc e a c
theorem Tc.lt{e:Nat->Nat->Bool}{a b:Nat}(h:Tc e a b):a<12/\b<12:=by
 induction h with
 |one h1 h2 _=>exact⟨h1,h2⟩
 |trans _ _ i1 i2=>exact⟨i1.1,i2.2⟩
def iw(v:aH):ax:=ax.mk v.bu v.ca v.br v.b9
def okV(v:aH):Bool:=ej (iw v)&&(decide (0<=v.er)&&(decide (v.er<v.eb)&&(decide (v.eb<=4096)&&((decide (v.use=0) || decide (v.units=0))&&(decide (0<=v.use)&&(decide (v.use<6)&&(decide (0<=v.units)&&decide (v.units<=1048576))))))))
theorem uD(v:aH):fZ v=some (okV v):=by
 unfold fZ okV;rw[iT];have e1:decide (v.er<0)=!decide (0<=v.er):=by rw[<- decide_not,decide_eq_decide];omega
 have e2:decide (v.er>=v.eb)=!decide (v.er<v.eb):=by rw[<- decide_not,decide_eq_decide];omega
 have e3:decide (v.eb>4096)=!decide (v.eb<=4096):=by rw[<- decide_not,decide_eq_decide];omega
 have e4:(v.use !=0)=!decide (v.use=0):=by by_cases h:v.use=0<;>simp[h]
 have e5:(v.units !=0)=!decide (v.units=0):=by by_cases h:v.units=0<;>simp[h]
 rw[e1,e2,e3,e4,e5,show ax.mk v.bu v.ca v.br v.b9=iw v from rfl];simp only[ge_iff_le];generalize ej (iw v)=a1;generalize decide (0<=v.er)=a2;generalize decide (v.er<v.eb)=a3;generalize decide (v.eb<=4096)=a4;generalize decide (v.use=0)=a5;generalize decide (v.units=0)=a6;generalize decide (0<=v.use)=a7;generalize decide (v.use<6)=a8;generalize decide (0<=v.units)=a9;generalize decide (v.units<=1048576)=j0;cases a1<;>cases a2<;>cases a3<;>cases a4<;>cases a5<;>cases a6<;>cases a7<;>cases a8<;>cases a9<;>rfl
theorem Xm{v:aH}(h:okV v=true):ej (iw v)=true:=by rw[okV,aK]at h;exact h.1
def kL(d:bq):List aH:=d.phases.flatMap (·.cy)
theorem dC{l:List rJ}(h:∀p∈l,p.cy.length<=1000):(l.flatMap (·.cy)).length<=l.length*1000:=by
 induction l with
 |nil=>simp
 |cons p l ih=>
  have h1:=h p (by simp);have h2:=ih λq hq=>h q (by simp[hq]);simp only[List.flatMap_cons,dL,bG];omega
def Xn(d:bq):Prop:=d.phases.length<=1000/\∀p∈d.phases,p.cy.length<=1000
theorem Xo{d:bq}(h:Xn d)(hn:1001<=n):nV n d 0 (d.phases.length:Int)=some (kL d):=by
 obtain⟨h1,h2⟩:=h;unfold nV;have key:=p9 (step:=nG d 0 (d.phases.length:Int)) (λ i=>((i:Int),(d.phases.take i).flatMap (·.cy))) (s:=((0:Int),([]:List aH))) d.phases.length (kL d) rfl (λ i hi=>by
  have e2:decide ((i:Int)>=0)=true:=by simp
  have hl:=dC (l:=d.phases.take i) λp hp=>h2 p (List.mem_of_mem_take hp);rw[length_take]at hl;have hv:=h2 _ (getElem_mem hi);generalize hL:(d.phases.take i).flatMap (·.cy)=L at hl;have hap:bQ L.length L.length d.phases[i].cy.length d.phases[i].cy.length 72=true:=dh (by omega) (by simp only[maxLen];omega);simp only[nG,bO hi,aj,bB hi,af,e2,hap,dN,aD,aL i];rw[gF hi,List.flatMap_append,hL];simp only[List.flatMap_cons,List.flatMap_nil,append_nil]) (by simp only[nG,bX,ak,aD,aj,List.take_length,kL]) n (by omega)
 have hz:az 0 ([]:List aH).length=true:=rfl;simp only[hz,aj,key,af,bZ,aD]
def Wk(v:aH):Int:=(kS v).getD 0
theorem Xp(v:aH):kS v=some (Wk v):=by
 unfold Wk kS;rw[uD];cases v.extra<;>cases okV v<;>rfl
def Of(v:aH):Int:=(oD v).getD 0
theorem aew(v:aH):oD v=some (Of v):=by
 unfold Of oD;rw[uD,Xp];cases h:okV v with
 |false=>rfl
 |true=>
  have e:=CX (Xm h);unfold iw at e;simp only[af,Bool.not_true,ak,e,Option.getD_some]
theorem aoC(a1:List cB)(a8:List ax){a9:List aH}(hl:a9.length<=1000)(hn:1001<=n):∃r,∀(a0:List fA)(a2:List dO)(a3:List bJ)(a4:List fV)(a5:List eU)(a6:List bV)(a7:Int),kG n a0 a1 a2 a3 a4 a5 a6 a7 a8 a9=some (r,a0,a1,a2,a3,a4,a5,a6,a7,a8,a9):=by
 have key:=oo (l:=a9) (step:=jE a9) (λ i (s:Int)=>(s,(i:Int))) (λ v s=>i64.wrap (s+Of v)) (λ s=>s) (λ i hi s=>by simp only[jE,bO hi,aj,aU hi,aY hi,af,aew,aL i]) (λ s=>by simp only[jE,bX,ak]) n (by omega) 0;rw[show ((0:Nat):Int)=0 from rfl]at key;unfold kG ql;simp only[key,af,aD,aj];exact⟨_,λ_ _ _ _ _ _ _=>rfl⟩
theorem aoD(a1:List cB)(a8:List ax){a9:List aH}(hl:a9.length<=1000)(hn:1001<=n):∃r,∀(a0:List fA)(a2:List dO)(a3:List bJ)(a4:List fV)(a5:List eU)(a6:List bV)(a7:Int),kH n a0 a1 a2 a3 a4 a5 a6 a7 a8 a9=some (r,a0,a1,a2,a3,a4,a5,a6,a7,a8,a9):=by
 have key:=oo (l:=a9) (step:=jH a9) (λ i (s:Int)=>(s,(i:Int))) (λ v s=>i64.wrap (s+v.units)) (λ s=>s) (λ i hi s=>by simp only[jH,bO hi,aj,aU hi,aY hi,af,oI,aL i]) (λ s=>by simp only[jH,bX,ak]) n (by omega) 0;rw[show ((0:Nat):Int)=0 from rfl]at key;unfold kH qm;simp only[key,af,aD,aj];exact⟨_,λ_ _ _ _ _ _ _=>rfl⟩
theorem alK(a1:List cB)(a8:List ax){a9:List aH}(hl:a9.length<=1000)(hn:1001<=n):∃r,∀(a0:List fA)(a2:List dO)(a3:List bJ)(a4:List fV)(a5:List eU)(a6:List bV)(a7:Int),jF n a0 a1 a2 a3 a4 a5 a6 a7 a8 a9=some (r,a0,a1,a2,a3,a4,a5,a6,a7,a8,a9):=by
 have key:=oo (l:=a9) (step:=gQ a9) (λ i (s:Int)=>(s,(i:Int))) (λ v s=>max s (Wk v)) (λ s=>s) (λ i hi s=>by simp only[gQ,bO hi,aj,aU hi,aY hi,af,Xp,aL i]) (λ s=>by simp only[gQ,bX,ak]) n (by omega) 0;rw[show ((0:Nat):Int)=0 from rfl]at key;unfold jF l7;simp only[key,af,aD,aj];exact⟨_,λ_ _ _ _ _ _ _=>rfl⟩
theorem alL(a1:List cB)(a8:List ax){a9:List aH}(hl:a9.length<=1000)(hn:1001<=n):∃r,∀(a0:List fA)(a2:List dO)(a3:List bJ)(a4:List fV)(a5:List eU)(a6:List bV)(a7:Int),jG n a0 a1 a2 a3 a4 a5 a6 a7 a8 a9=some (r,a0,a1,a2,a3,a4,a5,a6,a7,a8,a9):=by
 have key:=oo (l:=a9) (step:=gT a9) (λ i (s:Int)=>(s,(i:Int))) (λ v s=>max s v.eb) (λ s=>s) (λ i hi s=>by simp only[gT,bO hi,aj,aU hi,aY hi,af,nI,aL i]) (λ s=>by simp only[gT,bX,ak]) n (by omega) 0;rw[show ((0:Nat):Int)=0 from rfl]at key;unfold jG l8;simp only[key,af,aD,aj];exact⟨_,λ_ _ _ _ _ _ _=>rfl⟩
theorem ajD(e:bS)(a:JB){u:Int}(h0:0<=u)(h6:u<6):∃b,kg e a u=some b:=by
 obtain⟨k,rfl⟩:∃k:Nat,u=(k:Int):=⟨u.toNat,by omega⟩;have hk:k<6:=by omega
 unfold kg;rw[aU hk,bB (l:=[a.a0,a.a1,a.a2,a.a3,a.a4,a.a5]) hk];exact⟨_,rfl⟩
theorem ES{l:List bS}{φ:(bS×Unit)->Option Bool}(p:bS->Bool)(h:∀x∈l,φ (x,())=some (p x))(hl:l.length<=9223372036854775807)(hn:l.length<n):ko n l φ=some (xG p l):=Fs p h hl hn
theorem aoE(p:bn){u:Int}(h0:0<=u)(h6:u<6)(ht:p.tables.length<n)(ht2:p.tables.length<=9223372036854775807)(hr:∀t∈p.tables,t.rows.length<n/\t.rows.length<=9223372036854775807):∃r,Ah n p u=some r:=by
 have key:∃o,iter (kr n p u) n (0:Int)=some o/\True:=by
  have step:∀i (hi:i<p.tables.length),kr n p u (i:Int)=some (.inl ((i+1:Nat):Int))\/∃z,kr n p u (i:Int)=some (.inr (.inr z)):=by
   intro i hi;obtain⟨r1,r2⟩:=hr _ (getElem_mem hi);simp only[kr,bO hi,aj,bB hi,af,aL i];cases ByteArray.toList p.tables[i].name==ByteArray.toList ⟨#[116,114,97,102,102,105,99]⟩with
   |false=>exact Or.inl rfl
   |true=>
    right;simp only[Bool.not_true,ak];generalize JB.mk _ _ _ _ _ _=A;have hx:=ES (n:=n) (l:=p.tables[i].rows) (φ:=λy1=>kg y1.1 A u) (λ e=>(kg e A u).getD false) (λ e _=>by have⟨b,hb⟩:=ajD e A h0 h6;simp[hb]) r2 r1;rw[hx];simp only[af,xH];cases hany:p.tables[i].rows.any λe=>(kg e A u).getD false with
    |false=>exact⟨_,rfl⟩
    |true=>
     have⟨j,hj,h1,_⟩:=adO hany;rw[h1];simp only[aj,bB hj,af];exact⟨_,rfl⟩
  have main:∀k i m,i+k=p.tables.length->k<m->∃o,iter (kr n p u) m (i:Int)=some o/\True:=by
   intro k
   induction k with
   |zero=>
    intro i m hi hm;obtain⟨q,rfl⟩:∃q,m=q+1:=⟨m -1,by omega⟩;have:i=p.tables.length:=(by omega);subst this;exact⟨.inl (),fF (by simp only[kr,bX,ak]),trivial⟩
   |succ k ih=>
    intro i m hi hm;obtain⟨q,rfl⟩:∃q,m=q+1:=⟨m -1,by omega⟩;rcases step i (by omega)with h |⟨z,h⟩
    ·rw[iH h];exact ih (i+1) q (by omega) (by omega)
    ·exact⟨_,fF h,trivial⟩
  exact main p.tables.length 0 n (by omega) ht
 obtain⟨o,h1,_⟩:=key;unfold Ah;rw[h1];cases o with
 |inl w=>exact⟨_,rfl⟩
 |inr r=>exact⟨_,rfl⟩
theorem agI(p:bn){v:aH}(hv:okV v=true)(ht:p.tables.length<n)(ht2:p.tables.length<=9223372036854775807)(hr:∀t∈p.tables,t.rows.length<n/\t.rows.length<=9223372036854775807):∃r,kT n p v=some r:=by
 simp only[okV,aK,aS]at hv;have⟨r,h1⟩:=aoE (n:=n) p (u:=v.use) hv.2.2.2.2.2.1 hv.2.2.2.2.2.2.1 ht ht2 hr;unfold kT;rw[h1,aew];simp only[af];have e100:((100:Int) !=0)=true:=rfl;by_cases h:r>0
 ·have e:(r !=0)=true:=by simp only[bne_iff_ne,ne_eq];omega
  have e2:decide (r>0)=true:=by simpa using h
  rw[e,e2];simp only[aj,af,e100];cases decide (Of v>i64.wrap (Int.tdiv 109951162777600 r))<;>exact⟨_,rfl⟩
 ·have e2:decide (r>0)=false:=by simpa using h
  rw[e2];exact⟨_,rfl⟩
theorem aoF(a1:List cB)(a8:List ax){a9:List aH}(hl:a9.length<=1000)(hn:1001<=n)(hv:∀v∈a9,okV v=true)(ht:a1.length<n)(ht2:a1.length<=9223372036854775807)(hr:∀t∈a1,t.rows.length<n/\t.rows.length<=9223372036854775807):∃r,∀(a0:List fA)(a2:List dO)(a3:List bJ)(a4:List fV)(a5:List eU)(a6:List bV)(a7:Int),jl n a0 a1 a2 a3 a4 a5 a6 a7 a8 a9=some (r,a0,a1,a2,a3,a4,a5,a6,a7,a8,a9):=by
 have key:=λ(a0:List fA)(a2:List dO)(a3:List bJ)(a4:List fV)(a5:List eU)(a6:List bV)(a7:Int)=>fD (l:=a9) (step:=jJ n a9) (λ i (s:Int)=>(s,(i:Int),a0,a1,a2,a3,a4,a5,a6,a7,a8,a9)) (λ v s=>i64.wrap (s+(kT n (bn.mk [] a1 [] [] [] [] [] 0) v).getD 0)) (λ s=>(s,a0,a1,a2,a3,a4,a5,a6,a7,a8,a9)) (λ _ _=>True) (λ i hi s _=>⟨by
  obtain⟨r,h1⟩:=agI (n:=n) (bn.mk [] a1 [] [] [] [] [] 0) (hv _ (getElem_mem hi)) ht ht2 hr;have h2:kT n (bn.mk a0 a1 a2 a3 a4 a5 a6 a7) a9[i]=some r:=h1;simp only[jJ,bO hi,aj,aU hi,aY hi,af,ku,h1,h2,aD,aL i,Option.getD_some],trivial⟩) (λ s _=>by simp only[jJ,bX,ak,aD,aj]) n (by omega) 0 trivial
 have key:=λa0 a2 a3 a4 a5 a6 a7=>(show ((0:Nat):Int)=0 from rfl) ▸ key a0 a2 a3 a4 a5 a6 a7;unfold jl qo;simp only[key,af,aD,aj];exact⟨_,λ_ _ _ _ _ _ _=>rfl⟩
theorem alM{α β:Type}(l:List α)(f:α->β)(z:β){i:Nat}(hi:i<l.length):((l.take i).map f++List.replicate (l.length -i) z).set i (f l[i])=(l.take (i+1)).map f++List.replicate (l.length -(i+1)) z:=by
 have h1:((l.take i).map f).length=i:=by simp;omega
 rw[List.set_append_right _ _ (by omega),h1,Nat.sub_self,show l.length -i=(l.length -(i+1))+1 by omega,List.replicate_succ,List.set_cons_zero,gF hi,map_append,aM];rfl
theorem alN{α β:Type}(l:List α)(f:α->β)(z:β){i:Nat}(hi:i<=l.length):((l.take i).map f++List.replicate (l.length -i) z).length=l.length:=by simp;omega
theorem alO{α β:Type}(l:List α)(f:α->β)(z:β){i:Nat}(hi:i<l.length):((l.take (i+1)).map f++List.replicate (l.length -(i+1)) z)[i]? =some (f l[i]):=by rw[List.getElem?_append_left (by simp;omega)];simp[hi]
theorem alP{l:List aH}(hl:l.length<=1000)(hn:1001<=n):iter (gB l) n ((0:Int),List.replicate l.length (ax.mk 0 0 0 0),([]:List Int))=some (l.map iw,l.flatMap λv=>[v.bu,v.br]):=by
 refine p9 (step:=gB l) (λ i=>((i:Int),(l.take i).map iw++List.replicate (l.length -i) (ax.mk 0 0 0 0),(l.take i).flatMap λv=>[v.bu,v.br])) l.length _ ?_ (λ i hi=>?_) ?_ n (by omega)
 ·simp
 ·have h1:=alN l iw (ax.mk 0 0 0 0) (Nat.le_of_lt hi);have h2:=alM l iw (ax.mk 0 0 0 0) hi;have h3:=alO l iw (ax.mk 0 0 0 0) hi;have h4:((l.take i).flatMap λv=>[v.bu,v.br]).length=2*i:=by
   have:∀m:List aH,(m.flatMap λv=>[v.bu,v.br]).length=2*m.length:=by
    intro m;induction m with
    |nil=>rfl
    |cons a m ih=>simp only[List.flatMap_cons,dL,ih,bG,length_nil];omega
   rw[this,length_take];omega
  generalize (l.take i).map iw++List.replicate (l.length -i) (ax.mk 0 0 0 0)=B at h1 h2;have e0:(((0:Nat):Int)+(i:Int)).toNat=i:=by omega
  have et:((l.length:Int):Int).toNat=l.length:=by omega
  have hb:ax.mk l[i].bu l[i].ca l[i].br l[i].b9=iw l[i]:=rfl;have hiB:i<B.length:=by omega
  rw[<- h2]at h3;have g3:bo (B.set i (iw l[i])) (((0:Nat):Int)+(i:Int))=some (iw l[i]):=by rw[Eb];exact h3
  have hs:sub ([(iw l[i]).x0,(iw l[i]).x1]:List Int) 0 2=[(iw l[i]).x0,(iw l[i]).x1]:=rfl;have hap:bQ (2*i) (2*i) 2 2 8=true:=dh (by omega) (by simp only[maxLen];omega);have hl2:([(iw l[i]).x0,(iw l[i]).x1]:List Int).length=2:=rfl;simp only[gB,bO hi,aj,aU hi,aY hi,af,et,aY hiB,e0,hb,g3,hs,hl2,h4,hap,dN,aD,aL i];rw[<- h2,gF hi,List.flatMap_append];rfl
 ·simp only[gB,bX,ak,aD,aj,List.take_length];simp
theorem alQ{l:List aH}{R:List ax}{X:List Int}(w2:List Int)(hR:R.length=l.length)(hX:X.length=w2.length)(hl:l.length<=1000)(hn:1001<=n){k:Nat}(hk:k+1<w2.length)(hw:w2.length<=10000)(s:Int):∃o,iter (iU l w2 R X (k:Int)) n (s,(0:Int),(0:Int))=some o/\True:=by
 refine Oc (λ i (v:Int×Int×Int)=>v.2.2=(i:Int)) l.length (λ _=>True) (λ i v hi hv=>?_) (λ v hv=>?_) n (by omega) _ rfl
 ·obtain⟨a,b,c⟩:=v;simp only at hv;subst hv;have et:(((l.length:Int):Int).toNat)=l.length:=by omega
  have ew:i64.wrap ((k:Int)+1)=((k+1:Nat):Int):=bL (by omega);simp only[iU,et,bO hi,aj,aU hi,aY (show i<R.length by omega),af,aU (show k<w2.length by omega),aY (show k<X.length by omega),ew,aU hk,aY (show k+1<X.length by omega),aL i];cases decide ((R[i]'(by omega)).x0<=X[k]'(by omega))with
  |false=>exact⟨_,rfl,rfl⟩
  |true=>
   simp only[aj,af];cases decide (X[k]'(by omega)<(R[i]'(by omega)).x1)with
   |false=>exact⟨_,rfl,rfl⟩
   |true=>
    simp only[aj,af];cases decide ((R[i]'(by omega)).y1>b)<;>exact⟨_,rfl,rfl⟩
 ·obtain⟨a,b,c⟩:=v;simp only at hv;subst hv;have et:(((l.length:Int):Int).toNat)=l.length:=by omega
  simp only[iU,et,bX,ak];exact⟨_,rfl,trivial⟩
theorem alR(a1:List cB)(a8:List ax){a9:List aH}(hl:a9.length<=1000)(hn:10000<=n):∃r,∀(a0:List fA)(a2:List dO)(a3:List bJ)(a4:List fV)(a5:List eU)(a6:List bV)(a7:Int),iK n a0 a1 a2 a3 a4 a5 a6 a7 a8 a9=some (r,a0,a1,a2,a3,a4,a5,a6,a7,a8,a9):=by
 have et:(((a9.length:Int):Int).toNat)=a9.length:=by omega
 have mk:zG (a9.length:Int) 32=true:=aif (by omega) (by simp only[maxLen];omega);have d1:decide ((a9.length:Int)<=(a9.length:Int))=true:=by simp
 have d2:decide (0<=(a9.length:Int))=true:=by simp
 have hz:az 0 ([]:List Int).length=true:=rfl;have hx:(a9.flatMap λv=>[v.bu,v.br]).length<=2000:=by
  have:∀m:List aH,(m.flatMap λv=>[v.bu,v.br]).length=2*m.length:=by
   intro m;induction m with
   |nil=>rfl
   |cons a m ih=>simp only[List.flatMap_cons,dL,ih,bG,length_nil];omega
  rw[this];omega
 unfold iK;rw[et,alP hl (by omega)];generalize (a9.flatMap λv=>[v.bu,v.br])=W at hx;have srt:=JY (n:=n) (l:=a9.map iw) (φ:=λy1=>iJ y1.1 y1.2.1) (λ x y=>if x.y0<y.y0 then -1 else if y.y0<x.y0 then 1 else 0) (λ x y=>by
  show iJ x y=_;unfold iJ;rw[kE];rfl) (λ x y=>by
  unfold wy;rw[decide_eq_decide];constructor
  ·intro h;split at h
   ·assumption
   ·split at h<;>omega
  ·intro h;rw[aX h];decide) (by simp;omega) (by simp;omega)
 have hm:az a9.length (a9.map iw).length=true:=by simp
 have hR:(lu wy (a9.map iw)).length=a9.length:=by rw[xI aij];simp
 have hX:(j6 oc W).length=W.length:=(Ef oc W).length_eq;simp only[d1,d2,mk,Bool.and_self,aj,hz,af,hm,srt,aD,o7 (show W.length<1099511627776 by omega) (show W.length<n by omega)];generalize lu wy (a9.map iw)=R at hR;generalize j6 oc W=X at hX;have key:∃o,iter (iV n a9 W R X) n ((0:Int),(0:Int))=some o/\True:=by
  have eN:max (0:Int) (i64.wrap ((W.length:Int) -1))=((W.length -1:Nat):Int):=by
   cases h:W.length with
   |zero=>rfl
   |succ k=>rw[mO (by omega) (by omega)];omega
  refine Oc (λ i (v:Int×Int)=>v.2=(i:Int)) (W.length -1) (λ _=>True) (λ i v hi hv=>?_) (λ v hv=>?_) n (by omega) _ rfl
  ·obtain⟨a,b⟩:=v;simp only at hv;subst hv;obtain⟨o,ho,_⟩:=alQ (n:=n) (l:=a9) (R:=R) (X:=X) W hR hX hl (by omega) (k:=i) (by omega) (by omega) a;simp only[iV,eN,bO hi,aj,ho,af,aL i];exact⟨_,rfl,rfl⟩
  ·obtain⟨a,b⟩:=v;simp only at hv;subst hv;simp only[iV,eN,bX,ak];exact⟨_,rfl,trivial⟩
 obtain⟨o,ho,_⟩:=key;rw[ho];exact⟨o,λ_ _ _ _ _ _ _=>rfl⟩
def JT(b:ax)(k:Int):ax:=⟨b.x0 -k,b.y0 -k,b.x1+k,b.y1+k⟩
def EU(area:List ax)(b:ax)(k:Int):Bool:=ej (JT b k)&&decide (area.foldl (λ s y=>Xf (JT b k) s y) 0=J1 (JT b k))
theorem ajE(b:ax)(k:Int)(a2:List fA)(a3:List cB)(a4:List dO)(a5:List bJ)(a6:List fV)(a7:List eU)(a8:List bV)(a9:Int){j0:List ax}(ta:List aH)(hb:ej b=true)(h0:0<=k)(h1:k<=1048576)(hl:j0.length<=1000)(hn:1001<=n):
 jI n b k a2 a3 a4 a5 a6 a7 a8 a9 j0 ta=some (EU j0 b k,a2,a3,a4,a5,a6,a7,a8,a9,j0,ta):=by
 rw[ano]at hb;unfold jI Ba EU;rw[dS (x:=b.x0 -k),dS (x:=b.y0 -k),dS (x:=b.x1+k),dS (x:=b.y1+k),show ax.mk (b.x0 -k) (b.y0 -k) (b.x1+k) (b.y1+k)=JT b k from rfl,iT];generalize JT b k=g;simp only[af];cases hg:ej g with
 |false=>simp only[Bool.not_false,aj,aD,Bool.false_and]
 |true=>
  have key:=oo (l:=j0) (step:=iE j0 (g,true)) (λ i (s:Int)=>(s,(i:Int))) (λ y s=>Xf g s y) (λ s=>s) (λ i hi s=>by
   simp only[iE,bO hi,aj,bB hi,af,y7,aL i,Xf];cases h1:ej g with
   |false=>rfl
   |true=>
    cases h2:ej j0[i]with
    |false=>rfl
    |true=>
     cases h3:ej (Fv g j0[i])with
     |false=>rfl
     |true=>simp only[Bool.and_self,aj,CX h3,af]) (λ s=>by simp only[iE,bX,ak]) n (by omega) 0
  rw[show ((0:Nat):Int)=0 from rfl]at key;simp only[Bool.not_true,ak,key,af,CX hg,aD,aj,Bool.true_and];congr 2
def Qp(p:Int->Bool):Nat->Int->Int->Int
 | 0,lo,_=>lo
 |k+1,lo,hi=>bif decide (lo<hi)then(bif p ((lo+hi+1)/2)then Qp p k ((lo+hi+1)/2) hi else Qp p k lo ((lo+hi+1)/2 -1))else lo
theorem abW(p:Int->Bool):∀k lo hi,lo<=hi->lo<=Qp p k lo hi/\Qp p k lo hi<=hi
 | 0,lo,hi,h=>by simp only[Qp];omega
 |k+1,lo,hi,h=>by
  simp only[Qp];by_cases h1:lo<hi
  ·have e:decide (lo<hi)=true:=(by simpa using h1);rw[e,aj];cases p ((lo+hi+1)/2)with
   |true=>have:=abW p k ((lo+hi+1)/2) hi (by omega);simp only[aj];omega
   |false=>have:=abW p k lo ((lo+hi+1)/2 -1) (by omega);simp only[ak];omega
  ·have e:decide (lo<hi)=false:=(by simpa using h1);rw[e,ak];omega
theorem agJ{v:aH}(hv:ej (iw v)=true)(a2:List fA)(a3:List cB)(a4:List dO)(a5:List bJ)(a6:List fV)(a7:List eU)(a8:List bV)(a9:Int){j0:List ax}(ta:List aH)(hl:j0.length<=1000)(hn:1001<=n):
 ∀(k:Nat) lo hi m,0<=lo->lo<=hi->hi<=1048576->hi -lo<2 ^ k->k<m->iter (eX n v) m (lo,hi,a2,a3,a4,a5,a6,a7,a8,a9,j0,ta)=some (Qp (EU j0 (iw v)) k lo hi,a2,a3,a4,a5,a6,a7,a8,a9,j0,ta):=by
 intro k
 induction k with
 |zero=>
  intro lo hi m h0 h1 h2 h3 hm;obtain⟨q,rfl⟩:∃q,m=q+1:=⟨m -1,by omega⟩;have:lo=hi:=by simp at h3;omega
  subst this;refine fF ?_;have e:decide (lo<lo)=false:=by simp
  simp only[eX,e,ak,aD,aj,Qp]
 |succ k ih=>
  intro lo hi m h0 h1 h2 h3 hm;obtain⟨q,rfl⟩:∃q,m=q+1:=⟨m -1,by omega⟩;have hp:(2:Int) ^ (k+1)=2*2 ^ k:=by rw[Int.pow_succ];omega
  rw[hp]at h3;by_cases hlt:lo<hi
  ·have e:decide (lo<hi)=true:=(by simpa using hlt);have e2:((2:Nat) !=0)=true:=rfl;have em:i64.wrap (Int.tdiv (i64.wrap (i64.wrap (lo+hi)+1)) 2)=(lo+hi+1)/2:=(by rw[dS (x:=lo+hi),dS (x:=lo+hi+1),Int.tdiv_eq_ediv_of_nonneg (by omega),dS (by omega) (by omega)]);have hi2:=ajE (n:=n) (iw v) ((lo+hi+1)/2) a2 a3 a4 a5 a6 a7 a8 a9 (j0:=j0) ta hv (by omega) (by omega) hl hn;unfold iw at hi2;cases hc:EU j0 (iw v) ((lo+hi+1)/2)with
   |true=>
    rw[iH (v':=((lo+hi+1)/2,hi,a2,a3,a4,a5,a6,a7,a8,a9,j0,ta)) (by
     unfold iw at hc;simp only[eX,e,aj,e2,aD,em,hi2,af,hc]),ih _ _ _ (by omega) (by omega) (by omega) (by omega) (by omega)]
    simp only[Qp,e,aj,hc]
   |false=>
    rw[iH (v':=(lo,(lo+hi+1)/2 -1,a2,a3,a4,a5,a6,a7,a8,a9,j0,ta)) (by
     unfold iw at hc;simp only[eX,e,aj,e2,aD,em,hi2,af,hc,ak,dS (x:=(lo+hi+1)/2 -1)]),ih _ _ _ (by omega) (by omega) (by omega) (by omega) (by omega)]
    simp only[Qp,e,aj,hc,ak]
  ·have e:decide (lo<hi)=false:=(by simpa using hlt);refine fF ?_;simp only[eX,e,ak,aD,aj,Qp]
def uE(area:List ax)(l:List aH):Int:=l.foldl (λ b v=>Qp (EU area (iw v)) 21 0 b) 1048576
theorem agK(a0:List fA)(a1:List cB)(a2:List dO)(a3:List bJ)(a4:List fV)(a5:List eU)(a6:List bV)(a7:Int){a8:List ax}{a9:List aH}(hv:∀v∈a9,okV v=true)(hl:a9.length<=1000)(h8:a8.length<=1000)(hn:1001<=n):jk n a0 a1 a2 a3 a4 a5 a6 a7 a8 a9=some (uE a8 a9,a0,a1,a2,a3,a4,a5,a6,a7,a8,a9):=by
 have key:=fD (l:=a9) (step:=ig n a9) (λ i (s:Int)=>(s,(i:Int),a0,a1,a2,a3,a4,a5,a6,a7,a8,a9)) (λ v s=>Qp (EU a8 (iw v)) 21 0 s) (λ s=>(s,a0,a1,a2,a3,a4,a5,a6,a7,a8,a9)) (λ _ s=>0<=s/\s<=1048576) (λ i hi s hs=>by
  have h1:=agJ (n:=n) (Xm (hv _ (getElem_mem hi))) a0 a1 a2 a3 a4 a5 a6 a7 (j0:=a8) a9 h8 hn 21 0 s n (by omega) hs.1 hs.2 (by have:(2:Int) ^ 21=2097152:=rfl;omega) (by omega);have h2:=abW (EU a8 (iw a9[i])) 21 0 s hs.1;refine⟨?_,by omega,by omega⟩;simp only[ig,bO hi,aj,aU hi,aY hi,af,aD,h1,aL i]) (λ s _=>by simp only[ig,bX,ak,aD,aj]) n (by omega) 1048576 (by omega)
 rw[show ((0:Nat):Int)=0 from rfl]at key;unfold jk;simp only[aD,aj,key,af];rfl
def fH(d:bq):List aH:=((kL d).take 40).filter okV
theorem abX(d:bq):∀v∈fH d,okV v=true:=λv hv=>(mem_filter.1 hv).2
theorem YZ(d:bq):(fH d).length<=40:=Nat.le_trans (length_filter_le _ _) (by rw[length_take];omega)
def mY(lot:bU):List ax:=bif cR lot.area then lot.area else []
theorem apb{l:List aH}(a0:List fA)(a1:List cB)(a2:List dO)(a3:List bJ)(a4:List fV)(a5:List eU)(a6:List bV)(a7:Int)(a8:List ax)(hl:l.length<=9223372036854775807)(hn:l.length<n):
 iter (qG l) n ((0:Int),a0,a1,a2,a3,a4,a5,a6,a7,a8,([]:List aH))=some (a0,a1,a2,a3,a4,a5,a6,a7,a8,(l.take 40).filter okV):=by
 refine p9 (step:=qG l) (λ i=>((i:Int),a0,a1,a2,a3,a4,a5,a6,a7,a8,((l.take i).take 40).filter okV)) l.length _ (by simp) (λ i hi=>?_) ?_ n hn
 ·have hlen:(((l.take i).take 40).filter okV).length<=40:=Nat.le_trans (length_filter_le _ _) (by rw[length_take];omega);have e40:decide ((i:Int)<40)=decide (i<40):=by rw[decide_eq_decide];omega
  have hs:sub ([l[i]]:List aH) 0 1=[l[i]]:=rfl;have hN:((l.take (i+1)).take 40).filter okV=((l.take i).take 40).filter okV++(bif decide (i<40)&&okV l[i]then [l[i]]else []):=by
   by_cases h:i<40
   ·have h1:(l.take i).take 40=l.take i:=take_of_length_le (by rw[length_take];omega);have h2:(l.take (i+1)).take 40=l.take (i+1):=take_of_length_le (by rw[length_take];omega);have h3:decide (i<40)=true:=(by simpa using h);rw[h1,h2,gF hi,List.filter_append,h3];cases h4:okV l[i]<;>simp[h4]
   ·have h3:decide (i<40)=false:=(by simpa using h);rw[List.take_take,List.take_take,h3,show min 40 (i+1)=40 by omega,show min 40 i=40 by omega];simp
  rw[hN];generalize ((l.take i).take 40).filter okV=L at hlen;have hap:bQ L.length L.length 1 1 72=true:=dh (by omega) (by simp only[maxLen];omega);simp only[qG,bO hi,aj,aU hi,aY hi,af,e40,uD,aL i];cases decide (i<40)with
  |false=>simp only[ak,af,aD,aj,Bool.false_and,append_nil]
  |true=>
   simp only[aj,af,Bool.true_and];cases okV l[i]with
   |false=>simp only[ak,aD,aj,af,append_nil]
   |true=>simp only[aj,hs,length_singleton,hap,dN,aD,af]
 ·simp only[qG,bX,ak,aD,aj,List.take_length]
def alS(n:Nat)(p:bn):Prop:=p.tables.length<n/\p.tables.length<=9223372036854775807/\∀t∈p.tables,t.rows.length<n/\t.rows.length<=9223372036854775807
def CY:ByteArray:=⟨#[115,101,116,98,97,99,107]⟩
theorem aoG{p:bn}{lot:bU}{d:bq}(hp:alS n p)(hl:lot.area.length<=900)(hd:Xn d)(hn:2000000<=n):∃e1 e2 e3 e4 e5 e6 e7 e8:Int,∀(D:List fA)(Z:List dO)(R:List bJ)(C:List fV)(V:List eU)(S:List bV)(H:Int),kz n (bn.mk D p.tables Z R C V S H) lot d=some [⟨⟨#[97,114,101,97]⟩,e1⟩,⟨⟨#[99,111,118,101,114]⟩,e2⟩,⟨⟨#[102,108,111,111,114]⟩,e3⟩,⟨⟨#[102,108,111,111,114,115]⟩,e4⟩,⟨⟨#[104,101,105,103,104,116]⟩,e5⟩,⟨⟨#[104,111,109,101,115]⟩,e6⟩,⟨⟨#[114,117,110,111,102,102]⟩,e7⟩,⟨CY,uE (mY lot) (fH d)⟩,⟨⟨#[116,114,97,102,102,105,99]⟩,e8⟩]:=by
 have hs1:mY lot=(bif cR lot.area then lot.area else []):=rfl;have hsl:(mY lot).length<=900:=by unfold mY;cases cR lot.area<;>simp[hl]
 have hvl:=YZ d;have hvo:=abX d;have hfl:=dC hd.2;have hd1:=hd.1;obtain⟨hp1,hp2,hp3⟩:=hp;have hz:az 0 ([]:List aH).length=true:=rfl;have Hs:∀(D:List fA)(Z:List dO)(R:List bJ)(C:List fV)(V:List eU)(S:List bV)(H:Int),((bif cR lot.area then some (D,p.tables,Z,R,C,V,S,H,lot.area)else some (D,p.tables,Z,R,C,V,S,H,([]:(List ax)))):Option ((List fA)×(List cB)×(List dO)×(List bJ)×(List fV)×(List eU)×(List bV)×Int×(List ax)))=some (D,p.tables,Z,R,C,V,S,H,mY lot):=by intro D Z R C V S H;rw[hs1];cases cR lot.area<;>rfl
 obtain⟨e2,h2⟩:=alR (n:=n) p.tables (mY lot) (a9:=fH d) (by omega) (by omega);obtain⟨e3,h3⟩:=aoC (n:=n) p.tables (mY lot) (a9:=fH d) (by omega) (by omega);obtain⟨e4,h4⟩:=alK (n:=n) p.tables (mY lot) (a9:=fH d) (by omega) (by omega);obtain⟨e5,h5⟩:=alL (n:=n) p.tables (mY lot) (a9:=fH d) (by omega) (by omega);obtain⟨e6,h6⟩:=aoD (n:=n) p.tables (mY lot) (a9:=fH d) (by omega) (by omega);have h8:=λ(D:List fA)(Z:List dO)(R:List bJ)(C:List fV)(V:List eU)(S:List bV)(H:Int)=>agK (n:=n) D p.tables Z R C V S H (a8:=mY lot) (a9:=fH d) hvo (by omega) (by omega) (by omega);obtain⟨e9,h9⟩:=aoF (n:=n) p.tables (mY lot) (a9:=fH d) (by omega) (by omega) hvo hp1 hp2 hp3;refine⟨bif cR (mY lot)then La (mY lot)else 0,e2,e3,e4,e5,e6,e2,e9,λD Z R C V S H=>?_⟩;unfold kz;rw[lV (by omega) (by omega) (by omega),Xo hd (by omega)];simp only[af,Hs,hz,aj];rw[apb (n:=n) D p.tables Z R C V S H (mY lot) (by show(kL d).length<=_;unfold kL;omega) (by show(kL d).length<_;unfold kL;omega)];have hr:((kL d).take 40).filter okV=fH d:=rfl;have s1:∀e:bS,sub ([e]:List bS) 0 1=[e]:=λ_=>rfl;have ap:∀k,k<=20->bQ k k 1 1 24=true:=λk hk=>dh (by omega) (by simp only[maxLen];omega);have lot:mH n D p.tables Z R C V S H (mY lot) (fH d)=some (bif cR (mY lot)then La (mY lot)else 0,D,p.tables,Z,R,C,V,S,H,mY lot,fH d):=by
  unfold mH;rw[Lb (by omega) (by omega)];simp only[af,aD,aj]
 simp only[hr,af,aD,aj,lot,s1,length_singleton,ap 0 (by omega),dN,h2,ap 1 (by omega),dL,ap 2 (by omega),h3,ap 3 (by omega),h4,ap 4 (by omega),h5,ap 5 (by omega),h6,ap 6 (by omega),h8,ap 7 (by omega),h9,ap 8 (by omega),Nat.reduceAdd,Nat.zero_add,bZ];rfl
theorem an1{p:bn}{lot:bU}{d:bq}(hp:alS n p)(hl:lot.area.length<=900)(hd:Xn d)(hn:2000000<=n):∃e1 e2 e3 e4 e5 e6 e7 e8:Int,∀R:List bJ,kz n (bn.mk p.defs p.tables p.zones R p.caps p.views p.ml p.hours) lot d=some [⟨⟨#[97,114,101,97]⟩,e1⟩,⟨⟨#[99,111,118,101,114]⟩,e2⟩,⟨⟨#[102,108,111,111,114]⟩,e3⟩,⟨⟨#[102,108,111,111,114,115]⟩,e4⟩,⟨⟨#[104,101,105,103,104,116]⟩,e5⟩,⟨⟨#[104,111,109,101,115]⟩,e6⟩,⟨⟨#[114,117,110,111,102,102]⟩,e7⟩,⟨CY,uE (mY lot) (fH d)⟩,⟨⟨#[116,114,97,102,102,105,99]⟩,e8⟩]:=by
 have⟨e1,e2,e3,e4,e5,e6,e7,e8,h⟩:=aoG (n:=n) hp hl hd hn;exact⟨e1,e2,e3,e4,e5,e6,e7,e8,λR=>h _ _ R _ _ _ _⟩
theorem aim(ds:List (ByteArray×ET))(s:List UInt8):∀(k:Nat)(i:Int),Nc ds s k=some i->0<=i/\i<(k:Int)
 | 0,i,h=>by simp[Nc]at h
 |k+1,i,h=>by
  simp only[Nc]at h;split at h
  ·cases h;omega
  ·have:=aim ds s k i h;omega
theorem anp{ds:List (ByteArray×ET)}(h:ri ds<=4000000):YS (oH ds) ds.length:=by
 have hl:=Ux ds;refine⟨by simp[oH],by omega,λl hl=>?_⟩;simp only[oH,mem_map]at hl;obtain⟨d,hd,rfl⟩:=hl;have h1:=Uy hd;have h2:=ET.oT d.2;have h3:=adV d.2.names;refine⟨Nat.le_trans (List.length_filterMap_le _ _) (by omega),λk hk=>?_⟩;simp only[ic,List.mem_filterMap]at hk;obtain⟨s,_,hk⟩:=hk;exact aim ds s _ k hk
theorem aey{M:List ByteArray}(hM:M.length<=1000)(hn:1001<=n)(w0:List (ByteArray×Bool)):∃w,iter (nW M) n ((0:Int),w0)=some w:=by
 obtain⟨o,h,_⟩:=dH (step:=nW M) (λ i (v:Int×List (ByteArray×Bool))=>∃w,v=((i:Int),w)/\i<=M.length) (λ _=>True) M.length (λ k v ⟨_,_,h⟩=>h) (by
  rintro i v ⟨w,rfl,hi⟩;by_cases hlt:i<M.length
  ·simp only[nW,show decide ((i:Int)<(M.length:Int))=true from by simp;omega,aj,aU hlt,aY hlt,af,aL i];exact .inl ⟨_,rfl,_,rfl,hlt⟩
  ·simp only[nW,show decide ((i:Int)<(M.length:Int))=false from by simp;omega,ak];exact .inr ⟨_,rfl,trivial⟩) n 0 ((0:Int),w0) ⟨_,rfl,Nat.zero_le _⟩ (by omega)
 exact⟨o,h⟩
theorem aez{p:bn}(hp:p.defs.length<=4000000)(hn:4000001<=n)(w0:List (ByteArray×Bool)):iter (kV p) n ((0:Int),w0)=some (.inl ())\/iter (kV p) n ((0:Int),w0)=some (.inr ([],[],5)):=by
 obtain⟨o,h,h2⟩:=dH (step:=kV p) (λ i (v:Int×List (ByteArray×Bool))=>∃w,v=((i:Int),w)/\i<=p.defs.length) (λ o=>o= .inl ()\/o= .inr ([],[],5)) p.defs.length (λ k v ⟨_,_,h⟩=>h) (by
  rintro i v ⟨w,rfl,hi⟩;by_cases hlt:i<p.defs.length
  ·simp only[kV,show decide ((i:Int)<(p.defs.length:Int))=true from by simp;omega,aj,bB hlt,af,aL i];cases (fO Gb.lf p.defs[i].name w).getD false with
   |true=>exact .inr ⟨_,rfl,.inr rfl⟩
   |false=>exact .inl ⟨_,rfl,_,rfl,hlt⟩
  ·simp only[kV,show decide ((i:Int)<(p.defs.length:Int))=false from by simp;omega,ak];exact .inr ⟨_,rfl,.inl rfl⟩) n 0 ((0:Int),w0) ⟨_,rfl,Nat.zero_le _⟩ (by omega)
 rcases h2 with rfl |rfl
 ·exact .inl h
 ·exact .inr h
theorem aeA:∃M,wW=some M/\M.length=9:=⟨_,rfl,rfl⟩
def ii(l:List fA):Prop:=ri (l.map toD)<=4000000
theorem ii.len{l:List fA}(h:ii l):l.length<=4000000:=by
 have:=Ux (l.map toD);rw[length_map]at this;unfold ii at h;omega
theorem ii.body{l:List fA}(h:ii l){d:fA}(hd:d∈l):(toE (cu.mk d.io d.lw d.kw d.ia d.eo)).wt<=4000000:=by
 have h1:=Uy (mem_map.2 ⟨d,hd,rfl⟩:toD d∈l.map toD);unfold ii at h;simp only[toD,ET.wt]at h1;simp only[toE,ET.wt];omega
theorem SH{p:bn}(hp:ii p.defs)(hn:5000003<=n):∃r,nL n p=some r/\r.1.length<=p.defs.length/\(∀ k∈r.1,0<=k/\k<(p.defs.length:Int))/\r.2.1.length<=p.defs.length+1:=by
 obtain⟨M,hM,hM9⟩:=aeA;obtain⟨w,hw⟩:=aey (n:=n) (M:=M) (by omega) (by omega) [];have hg:YS (oH (p.defs.map toD)) p.defs.length:=by have:=anp hp;rwa [length_map]at this
 have HB:kU p.defs=some (p.defs,oH (p.defs.map toD)):=by
  unfold kU;rw[Nat.ble_eq_true_of_le hp];rfl
 simp only[nL,hM,af,hw];rcases aez (n:=n) (p:=p) hp.len (by omega) w with h |h
 ·have⟨c,hc,hc2,hc3⟩:=ad9 (n:=n) (a0:=p.defs) hg rfl hn;simp only[h,d9,HB,af,hc];cases h0:(c.length==0)with
  |true=>
   have e:c=[]:=List.eq_nil_of_length_eq_zero (by simpa using h0);obtain⟨l,hl,hll,hlr⟩:=aly (n:=n) (a0:=oU.mk p.defs (oH (p.defs.map toD))) hg rfl (hc2 e) (by omega);simp only[aj,af,ak,hl,bZ,aD];exact⟨_,rfl,by simp[hll],hlr,by simp⟩
  |false=>
   simp only[aj,af,ak,bZ,aD];exact⟨_,rfl,by simp,by simp,hc3⟩
 ·simp only[h,gu];exact⟨_,rfl,by simp,by simp,by simp⟩
theorem y8(x:cu):cu.mk x.op x.n x.s x.key x.args=x:=by cases x;rfl
theorem Og:∀l:List cu,Ic l=l.map toE
 |[]=>rfl
 |x::xs=>by simp only[Ic,aF,Og xs]
theorem ain:∀{l:List ET}{t:ET},t∈l->t.wt<=ET.te l
 |x::l,t,h=>by
  simp only[ET.te];rcases aN.1 h with rfl |h
  ·omega
  ·have:=ain h;omega
theorem XN{e x:cu}(h:x∈e.args):(toE x).wt<(toE e).wt:=by
 have h1:(toE x).wt<=ET.te (Ic e.args):=ain (by rw[Og];exact mem_map.2 ⟨x,h,rfl⟩);cases e;simp only[toE,ET.wt]at *;omega
theorem abY(e:cu):e.args.length<(toE e).wt:=by
 have h1:=ET.qS (Ic e.args);rw[Og,length_map]at h1;cases e;simp only[toE,ET.wt,Og]at *;omega
def VR:Nat->cu->Prop
 | 0,_=>False
 |k+1,e=>yU e.op=some ((e.args.length:Int),true)/\∀x∈e.args,VR k x
theorem agM(op:Int):∃a b,yU op=some (a,b):=by
 simp only[yU];cases (op==0)<;>cases (op==1)<;>cases (op==2)<;>cases (op==3)<;>cases (op==9)<;>cases (op==15)<;>cases (op==16)<;>cases (decide (op>=0))<;>exact⟨_,_,rfl⟩
theorem aaB(hn:4000002<=n):∀(m:Nat)(e:cu)(a:Int),m<=9223372036854775000->0<=a->a<=12->13<=a+m->(toE e).wt<=4000000->∃r,sI n m e a=some r/\1<=r/\r<=13+m/\(r<=12->VR m e)
 | 0,_,_,_,_,_,h,_=>absurd h (by omega)
 |m+1,e,a,hm,h0,h1,h2,h3=>by
  have⟨x,b,hx⟩:=agM e.op;have hla:=abY e;show ∃r,Ai n (sI n m) e a=some r/\_;simp only[Ai,hx,af];have bad:∃r,some (13:Int)=some r/\1<=r/\r<=13+((m+1:Nat):Int)/\(r<=12->VR (m+1) e):=⟨13,rfl,by omega,by omega,λh=>absurd h (by omega)⟩;cases b with
  |false=>simpa only[Bool.not_false,aj,af]using bad
  |true=>
   simp only[Bool.not_true,ak];by_cases hxl:x=(e.args.length:Int)
   ·subst hxl;simp only[show ((e.args.length:Int) !=(e.args.length:Int))=false from by simp,ak,af];by_cases ha:a>=12
    ·simpa only[ha,decide_true,aj]using bad
    ·simp only[ha,decide_false,ak]
     obtain⟨o,g1,g2,g3,g4⟩:=dH (step:=xR n (sI n m) e a) (λ i (v:Int×Int)=>v.2=(i:Int)/\i<=e.args.length/\0<=v.1/\v.1<=13+m/\(v.1<=11->∀y∈e.args.take i,VR m y))
      (λ o=>0<=o/\o<=13+m/\(o<=11->∀y∈e.args,VR m y)) e.args.length (λ k v h=>h.2.1) (by
      rintro i ⟨v2,v3⟩ ⟨hv,hi,i1,i2,i3⟩;simp only at hv i1 i2 i3;subst hv;by_cases hlt:i<e.args.length
      ·left;have hwx:=XN (getElem_mem hlt);obtain⟨r,r1,r2,r3,r4⟩:=aaB hn m e.args[i] (a+1) (by omega) (by omega) (by omega) (by omega) (by omega);refine⟨(max v2 r,((i+1:Nat):Int)),?_,rfl,hlt,by show 0<=max v2 r;omega,by show max v2 r<=_;omega,λh y hy=>?_⟩
       ·simp only[xR,show decide ((i:Int)<(e.args.length:Int))=true from by simp;omega,aj,bB hlt,af,y8,dS (show -9223372036854775808<=a+1 by omega) (show a+1<=9223372036854775807 by omega),r1,aL i]
       ·have h':max v2 r<=11:=h;rw[List.take_add_one,dJ hlt]at hy;rw[bf]at hy;rcases hy with hy |hy
        ·exact i3 (by omega) y hy
        ·simp at hy;subst hy;exact r4 (by omega)
      ·right;refine⟨v2,?_,i1,i2,λh y hy=>i3 h y (by rw[take_of_length_le (by omega)];exact hy)⟩;simp only[xR,show decide ((i:Int)<(e.args.length:Int))=false from by simp;omega,ak]) n 0 ((0:Int),(0:Int)) ⟨rfl,Nat.zero_le _,by simp,by show(0:Int)<=_;omega,by simp⟩ (by omega)
     simp only[g1,af];rw[dS (by omega) (by omega)];exact⟨o+1,rfl,by omega,by omega,λh=>⟨hx,g4 (by omega)⟩⟩
   ·simpa only[show (x !=(e.args.length:Int))=true from by simpa using hxl,aj,af]using bad
theorem RZ(hn:4000002<=n)(hn2:n<=9223372036854775000){e:cu}(h:(toE e).wt<=4000000):∃b,Ib n e=some b/\(b=true->VR n e):=by
 obtain⟨r,h1,h2,h3,h4⟩:=aaB hn n e 0 hn2 (by omega) (by omega) (by omega) h;refine⟨decide (r<=12),?_,λh=>h4 (by simpa using h)⟩;simp only[Ib,y8,Qb,h1,af]
def apc(tables:List cB)(s key:ByteArray):Int:=match tables.find? λt=>ByteArray.toList t.name==ByteArray.toList s with
 |some t=>ao8 t key
 |none=>0
def MD(ts:List cB):Prop:=ts.length<=4000000/\∀t∈ts,t.rows.length<=4000000
theorem ajF(hn:4000002<=n){a0:List fA}{ts:List cB}{a2:List dO}{a3:List bJ}{a4:List fV}{a5:List eU}{a6:List bV}{a7:Int}{zs:List ByteArray}(ht:MD ts)(e:cu)(kn:List (ByteArray×Int)):jm n a0 ts a2 a3 a4 a5 a6 a7 zs e kn=some (apc ts e.s e.key,kn):=by
 have h1:=ht.1;simp only[jm,y8];rw[FK (λ t=>ByteArray.toList t.name==ByteArray.toList e.s) (λ x _=>rfl) (by omega) (by omega)];simp only[af,apc];rcases Xe (λ t:cB=>ByteArray.toList t.name==ByteArray.toList e.s) ts with ⟨i,hi,h1,h2⟩ |⟨h1,h2⟩
 ·rw[h1,h2];have d:decide ((i:Int)<0)=false:=by simp
  have hr:=ht.2 _ (getElem_mem hi);simp only[d,ak,bB hi,af];rw[FL (λ x=>ByteArray.toList x.name==ByteArray.toList e.key) (λ x _=>rfl) (by omega) (by omega)];simp only[af,ao8];rcases Xe (λ x:bS=>ByteArray.toList x.name==ByteArray.toList e.key) ts[i].rows with ⟨j,hj,g1,g2⟩ |⟨g1,g2⟩
  ·rw[g1,g2];have d:decide ((j:Int)>=0)=true:=(by simp);simp only[d,aj,bB hj,af]
  ·rw[g1,g2];rfl
 ·rw[h1,h2];rfl
theorem cZ{α:Type}{c:Bool}{x y:Option α}(hx:∃r,x=some r)(hy:∃r,y=some r):∃r,(bif c then x else y)=some r:=by cases c<;>assumption
theorem Y0(a b:Int):∃r,wK a b=some r:=by
 simp only[wK];cases h:(b==0)with
 |true=>exact⟨_,rfl⟩
 |false=>
  have:(b !=0)=true:=by simp[bne,h]
  simp only[this,aj,ak];cases (Int.tmod a b !=0)<;>cases (decide (Int.tmod a b<0)==decide (b<0))<;>exact⟨_,rfl⟩
theorem Xq(b:Bool):∃r,yV b=some r:=cZ ⟨_,rfl⟩ ⟨_,rfl⟩
theorem sM{α β:Type}{x:Option α}{f:α->Option β}(hx:∃r,x=some r)(hf:∀r,∃s,f r=some s):∃s,x.bind f=some s:=by obtain⟨r,rfl⟩:=hx;exact hf r
theorem aeB(op a b:Int):∃r,JE op a b=some r:=by
 have q:=Y0 a b;have t:=λc=>Xq c;unfold JE
 repeat' first
  |exact⟨_,rfl⟩
  |exact q
  |exact t _
  |apply cZ
  |(refine sM ?_ λr=>?_)
theorem IE(h:0<n):cC 0 n=true:=by simp[cC];omega
theorem aeC(h:1<n):cC 1 n=true:=by simp[cC];omega
theorem alT(h:2<n):cC 2 n=true:=by simp[cC];omega
theorem Oh{α:Type}{l:List α}(h:0<l.length):bo l (((0:Nat):Int)+0)=some l[0]:=aY (i:=0) h
theorem aip{α:Type}{l:List α}(h:1<l.length):bo l (((0:Nat):Int)+1)=some l[1]:=aY (i:=1) h
theorem anq{α:Type}{l:List α}(h:2<l.length):bo l (((0:Nat):Int)+2)=some l[2]:=aY (i:=2) h
theorem Y1{l:List ByteArray}{s:ByteArray}(hl:l.length<=4000000)(hn:4000002<=n):∃r,fJ n l s=some r:=by
 obtain⟨o,h,_⟩:=dH (step:=nH l s) (λ i (v:Int)=>v=(i:Int)/\i<=l.length) (λ _=>True) l.length (λ k v h=>h.2) (by
  rintro i v ⟨rfl,hi⟩;by_cases hlt:i<l.length
  ·simp only[nH,show decide ((i:Int)<(l.length:Int))=true from by simp;omega,aj,bB hlt,af,aL i];cases (ByteArray.toList s==ByteArray.toList l[i])with
   |true=>exact .inr ⟨_,rfl,trivial⟩
   |false=>exact .inl ⟨_,rfl,rfl,hlt⟩
  ·simp only[nH,show decide ((i:Int)<(l.length:Int))=false from by simp;omega,ak];exact .inr ⟨_,rfl,trivial⟩) n 0 0 ⟨rfl,Nat.zero_le _⟩ (by omega)
 simp only[fJ,qZ,h];cases o with
 |inl u=>cases u;simp only[d9,af];exact⟨_,rfl⟩
 |inr r=>simp only[gu,af];exact⟨_,rfl⟩
theorem ajG{op a:Int}(h0:(op==0)=false)(h1:(op==1)=false)(h2:(op==2)=false)(h3:(op==3)=false)(h9:(op==9)=false)(LO:(op==15)=false)(h16:(op==16)=false)(h:yU op=some (a,true)):a=2:=by
 simp only[yU,h0,h1,h2,h3,h9,LO,h16,ak,af]at h;cases hd:decide (op>=0)with
 |true=>rw[hd]at h;simp only[aj,aA,Prod.mk.injEq]at h;exact h.1.symm
 |false=>rw[hd]at h;simp at h
section
variable {n:Nat} {a0:List fA} {ts:List cB} {a2:List dO} {a3:List bJ} {a4:List fV} {a5:List eU} {a6:List bV} {a7:Int} {zs:List ByteArray}
theorem Xr(hn:4000002<=n)(ht:MD ts)(hz:zs.length<=4000000):∀(m:Nat)(e:cu)(kn:List (ByteArray×Int)),VR m e->(toE e).wt<=4000000->∃v,cK n m a0 ts a2 a3 a4 a5 a6 a7 zs e kn=some (v,kn)
 | 0,_,_,h,_=>h.elim
 |m+1,e,kn,⟨ha,hr⟩,hw=>by
  have hla:=abY e;have hmx:maxLen=9223372036854775807:=rfl;show ∃v,fE n (cK n m) a0 ts a2 a3 a4 a5 a6 a7 zs e kn=some (v,kn)
  obtain⟨o,h1,l,rfl,hl⟩:=dH (step:=fw n (cK n m) a0 ts a2 a3 a4 a5 a6 a7 zs e) (λ i (v:Int×List (ByteArray×Int)×List Int)=>∃l,v=((i:Int),kn,l)/\i<=e.args.length/\l.length=i)
   (λ o=>∃l,o=(kn,l)/\l.length=e.args.length) e.args.length (λ k v ⟨_,_,h,_⟩=>h) (by
   rintro i v ⟨l,rfl,hi,hl⟩;by_cases hlt:i<e.args.length
   ·left;have hwx:=XN (getElem_mem hlt);obtain⟨x,hx⟩:=Xr hn ht hz m e.args[i] kn (hr _ (getElem_mem hlt)) (by omega);have key:∃b,((bif (e.op==(16:Int))then(bif (decide ((i:Int)>(0:Int)))then(ck (cC 0 l.length) ((bo l ((0:Nat)+0:Int)).bind λx2=>some (!((x2 !=(0:Int))==((i:Int)==(1:Int))))))else some false)else some false):Option (Bool))=some b:=by
     refine cZ ?_ ⟨_,rfl⟩;by_cases h0:(i:Int)>0
     ·simp only[h0,decide_true,aj,IE (show 0<l.length by omega),Oh (show 0<l.length by omega),af];exact⟨_,rfl⟩
     ·simp only[h0,decide_false,ak];exact⟨_,rfl⟩
    obtain⟨b,hb⟩:=key;have hap:∀z:Int,bQ l.length l.length (sub [z] 0 1).length 1 8=true:=λz=>(by simp[bQ,sub];omega);simp only[fw,show decide ((i:Int)<(e.args.length:Int))=true from by simp;omega,aj,bB hlt,af,hb,y8,hx,hap,dN,aD,aL i];cases b with
    |true=>exact⟨_,rfl,_,rfl,hlt,by simp[sub,hl]⟩
    |false=>exact⟨_,rfl,_,rfl,hlt,by simp[sub,hl]⟩
   ·right;refine⟨(kn,l),?_,l,rfl,by omega⟩;simp only[fw,show decide ((i:Int)<(e.args.length:Int))=false from by simp;omega,ak,aD,aj]) n 0 ((0:Int),kn,[]) ⟨[],rfl,Nat.zero_le _,rfl⟩ (by omega)
  simp only[fE,length_nil,aD,aj,h1,af,y8,ajF hn ht];cases h0:(e.op==0)with
  |true=>exact⟨_,rfl⟩
  |false=>
  cases h1:(e.op==1)with
  |true=>exact⟨_,rfl⟩
  |false=>
  cases h2:(e.op==2)with
  |true=>exact⟨_,rfl⟩
  |false=>
  cases h3:(e.op==3)with
  |true=>
   have⟨r,hr⟩:=Y1 (n:=n) (l:=zs) (s:=e.s) hz hn;have⟨r2,hr2⟩:=Xq r;simp only[ak,aj,hr,hr2,af];exact⟨_,rfl⟩
  |false=>
  cases h9:(e.op==9)with
  |true=>
   have e9:e.op=9:=(by simpa using h9);rw[e9]at ha;have:l.length=1:=(by have h:some ((1:Int),true)=some ((e.args.length:Int),true):=ha;simp at h;omega);simp only[ak,aj,IE (show 0<l.length by omega),Oh (show 0<l.length by omega),af];exact⟨_,rfl⟩
  |false=>
  cases LO:(e.op==15)with
  |true=>
   have e15:e.op=15:=(by simpa using LO);rw[e15]at ha;have:l.length=1:=(by have h:some ((1:Int),true)=some ((e.args.length:Int),true):=ha;simp at h;omega);obtain⟨r2,hr2⟩:=Xq (l[0]'(by omega)==0);simp only[ak,aj,IE (show 0<l.length by omega),Oh (show 0<l.length by omega),af,hr2];exact⟨_,rfl⟩
  |false=>
  cases h16:(e.op==16)with
  |true=>
   have e16:e.op=16:=(by simpa using h16);rw[e16]at ha;have:l.length=3:=(by have h:some ((3:Int),true)=some ((e.args.length:Int),true):=ha;simp at h;omega);simp only[ak,aj,IE (show 0<l.length by omega),Oh (show 0<l.length by omega),aeC (show 1<l.length by omega),aip (show 1<l.length by omega),alT (show 2<l.length by omega),anq (show 2<l.length by omega),af];cases (l[0]'(by omega) !=0)<;>exact⟨_,rfl⟩
  |false=>
   have:l.length=2:=(by have:=ajG h0 h1 h2 h3 h9 LO h16 ha;omega);obtain⟨r,hr⟩:=aeB e.op (l[0]'(by omega)) (l[1]'(by omega));simp only[ak,aj,IE (show 0<l.length by omega),Oh (show 0<l.length by omega),aeC (show 1<l.length by omega),aip (show 1<l.length by omega),af,hr];exact⟨_,rfl⟩
end
theorem agN{ms:List bS}(h:ms.length<=4000000)(hn:4000002<=n):∃o,iter (jY n ms) n ((0:Int),([]:List (ByteArray×Int)),([]:List (ByteArray×Bool)))=some o:=by
 obtain⟨o,h,_⟩:=dH (step:=jY n ms) (λ i (v:Int×List (ByteArray×Int)×List (ByteArray×Bool))=>∃a b,v=((i:Int),a,b)/\i<=ms.length) (λ _=>True) ms.length (λ k v ⟨_,_,_,h⟩=>h) (by
  rintro i v ⟨a,b,rfl,hi⟩;by_cases hlt:i<ms.length
  ·left;simp only[jY,show decide ((i:Int)<(ms.length:Int))=true from by simp;omega,aj,bB hlt,af,aL i];cases (!((fO Gb.lf ms[i].name b).getD false))<;>exact⟨_,rfl,_,_,rfl,hlt⟩
  ·right;simp only[jY,show decide ((i:Int)<(ms.length:Int))=false from by simp;omega,ak];exact⟨_,rfl,trivial⟩) n 0 _ ⟨[],[],rfl,Nat.zero_le _⟩ (by omega)
 exact⟨o,h⟩
structure Xs(p:bn):Prop where
 defs:ii p.defs
 tabs:MD p.tables
theorem Ld{p:bn}{ms:List bS}{zs:List ByteArray}(hp:Xs p)(hm:ms.length<=4000000)(hz:zs.length<=4000000)(hn:5000003<=n)(hn2:n<=9223372036854775000):∃kn ab,mh n p ms zs=some (p.defs,p.tables,p.zones,p.rules,p.caps,p.views,p.ml,p.hours,zs,kn,ab)/\ab.length=p.defs.length:=by
 obtain⟨⟨w1,w2⟩,hs1⟩:=agN (n:=n) hm (by omega);have⟨r,hr,hrl,hrr,_⟩:=SH (n:=n) hp.defs hn;have hl:=hp.defs.len;have hmx:maxLen=9223372036854775807:=rfl;have hmk:zG (p.defs.length:Int) 8=true:=by simp[zG];omega
 simp only[mh,hs1,af,Int.le_refl,decide_true,Bool.true_and,show decide ((0:Int)<=(p.defs.length:Int))=true from by simp,hmk,aj,hr];cases hb:(r.2.2 !=(0:Int))with
 |true=>
  simp only[aj,Int.toNat_natCast,List.length_replicate,aD];exact⟨_,_,rfl,by simp⟩
 |false=>
  obtain⟨o,h1,kn,ab,rfl,h2⟩:=dH (step:=gJ n p zs w2 r) (λ i (v:Int×List (ByteArray×Int)×List Int)=>∃kn ab,v=((i:Int),kn,ab)/\i<=r.1.length/\ab.length=p.defs.length)
   (λ o=>∃kn ab,o=(kn,ab)/\ab.length=p.defs.length) r.1.length (λ k v ⟨_,_,_,h,_⟩=>h) (by
   rintro i v ⟨kn,ab,rfl,hi,hol⟩;by_cases hlt:i<r.1.length
   ·left;have hk:=hrr r.1[i] (getElem_mem hlt);obtain⟨k,hk2⟩:=Int.eq_ofNat_of_zero_le hk.1;have hkd:k<p.defs.length:=(by omega);have hko:k<ab.length:=(by omega);have hbw:=hp.defs.body (getElem_mem hkd);obtain⟨b,hb1,hb2⟩:=RZ (n:=n) (by omega) hn2 hbw;simp only[gJ,show decide ((i:Int)<(r.1.length:Int))=true from by simp;omega,aj,aU hlt,aY hlt,af,hk2,bB hkd,hb1,Int.toNat_natCast,aU hkd,aY hko,aL i,show(((0:Nat):Int)+(k:Int)).toNat=k by omega];have step2:∀(P3:List (ByteArray×Int)) (out':List Int),out'.length=p.defs.length->∃P2,((bif (!((fO Gb.lf p.defs[k].name w2).getD false))then(bo out' ((0:Nat)+(k:Int):Int)).bind λx5=>some ((rG Gb.lf p.defs[k].name x5 P3),out')else some (P3,out')):Option ((List (ByteArray×Int))×(List Int)))=some (P2,out'):=by
     intro P3 out' ho;cases (!((fO Gb.lf p.defs[k].name w2).getD false))with
     |true=>simp only[aj,aY (show k<out'.length by omega),af];exact⟨_,rfl⟩
     |false=>exact⟨_,rfl⟩
    cases b with
    |true=>
     obtain⟨v,hv⟩:=Xr (n:=n) (a0:=p.defs) (a2:=p.zones) (a3:=p.rules) (a4:=p.caps) (a5:=p.views) (a6:=p.ml) (a7:=p.hours) (by omega) hp.tabs hz n _ kn (hb2 rfl) hbw;simp only[gm,hv,aj,af];obtain⟨kn2,h2⟩:=step2 kn (ab.set k v) (by simp[hol]);rw[h2];exact⟨_,rfl,_,_,rfl,hlt,by simp[hol]⟩
    |false=>
     simp only[ak,af];have⟨kn2,h2⟩:=step2 kn ab hol;rw[h2];exact⟨_,rfl,_,_,rfl,hlt,hol⟩
   ·right;simp only[gJ,show decide ((i:Int)<(r.1.length:Int))=false from by simp;omega,ak];exact⟨_,rfl,_,_,rfl,hol⟩) n 0 ((0:Int),w1,List.replicate p.defs.length 0) ⟨_,_,rfl,Nat.zero_le _,by simp⟩ (by omega)
  simp only[ak,Int.toNat_natCast,h1,af,h2,aD,aj];exact⟨_,_,rfl,h2⟩
theorem all_eq{d:bq}(h:Xn d)(hn:1001<=n):wI n d=some (kL d):=by simp only[wI,Xo h hn,af,bZ,aD,aj]
theorem Y2(a b:ByteArray)(h:a.size<=4000000):∃r,strings_Contains a b=some r:=by
 simp only[strings_Contains,Nat.ble_eq_true_of_le h,aj];exact⟨_,rfl⟩
theorem R3(c:Int):∃b,Ep c=some b:=cZ ⟨_,rfl⟩ ⟨_,rfl⟩
theorem agP(c:Int):∃b,Qa c=some b:=cZ ⟨_,rfl⟩ ⟨_,rfl⟩
theorem ajH(c:Int):∃b,Af c=some b:=sM (R3 c) λ_=>cZ ⟨_,rfl⟩ (sM (agP c) λ_=>⟨_,rfl⟩)
theorem aeD{s:ByteArray}{i:Nat}(h:i<s.size):∃c,Ru s (i:Int)=some c:=by
 simp only[Ru,show decide (0<=(i:Int))=true from by simp,aj,Int.toNat_natCast];rw[getElem?_pos s i h];exact⟨_,rfl⟩
theorem ajI{s:ByteArray}{φ:(Int×Unit)->Option Bool}(h:∀c,∃b,φ (c,())=some b)(hs:s.size<=4000000)(hn:4000002<=n):∃r,NH n s φ=some r:=by
 obtain⟨o,h1,_⟩:=dH (step:=Ae s φ) (λ i (v:Int)=>v=(i:Int)/\i<=s.size) (λ _=>True) s.size (λ k v h=>h.2) (by
  rintro i v ⟨rfl,hi⟩;by_cases hlt:i<s.size
  ·have⟨c,hc⟩:=aeD hlt;have⟨b,hb⟩:=h c;simp only[Ae,show decide ((i:Int)<(s.size:Int))=true from by simp;omega,aj,hc,af,hb,aL i];cases b with
   |true=>exact .inl ⟨_,rfl,rfl,hlt⟩
   |false=>exact .inr ⟨_,rfl,trivial⟩
  ·simp only[Ae,show decide ((i:Int)<(s.size:Int))=false from by simp;omega,ak,af];exact .inr ⟨_,rfl,trivial⟩) n 0 0 ⟨rfl,Nat.zero_le _⟩ (by omega)
 simp only[NH,h1,af];exact⟨_,rfl⟩
theorem ajJ(s:ByteArray)(hn:4000002<=n):∃b,NI n s=some b/\(b=true->s.size<=20):=by
 simp only[NI];cases h0:(ByteArray.toList s==ByteArray.toList (⟨#[]⟩))with
 |true=>exact⟨false,by simp only[aj,af],λh=>(by cases h)⟩
 |false=>
  have hs:0<s.size:=by
   refine Nat.pos_of_ne_zero λh=>?_;have:s=⟨#[]⟩:=by
    obtain⟨⟨l⟩⟩:=s;have:l.length=0:=h;rw[List.eq_nil_of_length_eq_zero this]
   rw[this]at h0;simp at h0
  have⟨c,hc⟩:=aeD hs;have hc':Ru s 0=some c:=hc;have⟨b,hb⟩:=R3 c;simp only[ak,hc',af,hb];cases b with
  |false=>exact⟨false,by simp only[Bool.not_false,aj,af],λh=>(by cases h)⟩
  |true=>
   simp only[Bool.not_true,ak,af];by_cases h20:(s.size:Int)>20
   ·exact⟨false,by simp only[h20,decide_true,aj],λh=>(by cases h)⟩
   ·obtain⟨r,hr⟩:=ajI (n:=n) (s:=s) (φ:=λ(y1:Int×Unit)=>Af y1.1) (λ c=>ajH c) (by omega) hn;simp only[h20,decide_false,ak,hr,af];exact⟨_,rfl,λ_=>by omega⟩
theorem ajK(s:ByteArray)(hn:4000002<=n):∃b,wJ n s=some b:=by
 have⟨b,hb,h20⟩:=ajJ (n:=n) s hn;simp only[wJ,hb,af];cases b with
 |false=>exact⟨_,rfl⟩
 |true=>
  have hs:=h20 rfl;have hmx:maxLen=9223372036854775807:=rfl;have c1:Vs (⟨#[32]⟩) s=true:=by
   have:(⟨#[32]⟩:ByteArray).size=1:=rfl;simp only[Vs,aS];omega
  have c2:Vs ((⟨#[32]⟩)++s) (⟨#[32]⟩)=true:=by
   have h1:(⟨#[32]⟩:ByteArray).size=1:=rfl;simp only[Vs,aS,ByteArray.size_append];omega
  simp only[aj,c1,c2];refine sM (Y2 _ _ (Nat.le_of_ble_eq_true ?_)) λ_=>⟨_,rfl⟩
  kernel_rfl
theorem ajL(a b:De):∃r,xN a b=some r:=by
 unfold xN;rw[y7];exact cZ (cZ ⟨_,rfl⟩ ⟨_,rfl⟩) ⟨_,rfl⟩
theorem fU{l:List aH}{φ:(aH×Unit)->Option Bool}(p:aH->Bool)(h:∀x∈l,φ (x,())=some (p x))(hl:l.length<1099511627776)(hn:l.length<n):fK n l φ=some (l.any p):=by
 have:qi n l φ=some (xG p l):=gD p h hl hn;simp only[fK,this,af,xH]
theorem yg{l:List aH}{φ:(aH×Unit)->Option Bool}(h:∀x∈l,∃b,φ (x,())=some b)(hl:l.length<1099511627776)(hn:l.length<n):fK n l φ=some (l.any λx=>(φ (x,())).getD false):=
 fU _ (λ x hx=>by have⟨b,hb⟩:=h x hx;rw[hb];rfl) hl hn
def IN(d:bq):Prop:=∀p∈d.phases,p.gives.length<=1000
theorem agQ{l:List aH}(hl:l.length<=1000000)(hn:4000002<=n):iter (kP n l) n (0:Int)=some (.inr false)\/(iter (kP n l) n (0:Int)=some (.inl ())/\∀v∈l,okV v=true):=by
 obtain⟨o,h1,h2⟩:=dH (step:=kP n l) (λ i (v:Int)=>v=(i:Int)/\i<=l.length/\∀x∈l.take i,okV x=true) (λ o=>o= .inr false\/(o= .inl ()/\∀v∈l,okV v=true)) l.length (λ k v h=>h.2.1) (by
  rintro i v ⟨rfl,hi,hall⟩;by_cases hlt:i<l.length
  ·simp only[kP,show decide ((i:Int)<(l.length:Int))=true from by simp;omega,aj,aU hlt,aY hlt,af,uD,aL i];cases hv:okV l[i]with
   |false=>exact .inr ⟨_,by simp only[Bool.not_false,aj,af];rfl,.inl rfl⟩
   |true=>
    have hsub:(sub l 0 i).length=i:=(by simp[sub];omega);have hc:=yg (n:=n) (l:=sub l 0 i) (φ:=λ(y1:aH×Unit)=>qX y1.1 l[i]) (λ x _=>sM (ajL _ _) λ_=>⟨_,rfl⟩) (by omega) (by omega);simp only[Bool.not_true,ak,yA (show (0:Int)<=0 by omega) (show (0:Int)<=(i:Int)by omega) (show (i:Int)<=(l.length:Int)by omega),aj,Int.toNat_natCast,Ec hsub,hc,af];cases ((sub l 0 i).any λx=>((λ (y1:aH×Unit)=>qX y1.1 l[i]) (x,())).getD false)with
    |true=>exact .inr ⟨_,rfl,.inl rfl⟩
    |false=>
     refine .inl ⟨_,rfl,rfl,hlt,λx hx=>?_⟩;rw[List.take_add_one,dJ hlt,bf]at hx;rcases hx with hx |hx
     ·exact hall x hx
     ·simp at hx;subst hx;exact hv
  ·refine .inr ⟨.inl (),?_,.inr ⟨rfl,λv hv=>hall v (by rw[take_of_length_le (by omega)];exact hv)⟩⟩;simp only[kP,show decide ((i:Int)<(l.length:Int))=false from by simp;omega,ak]) n 0 0 ⟨rfl,Nat.zero_le _,by simp⟩ (by omega)
 rcases h2 with rfl |⟨rfl,h2⟩
 ·exact .inl h1
 ·exact .inr ⟨h1,h2⟩
theorem agR{p:rJ}(hp:p.gives.length<=1000)(hn:4000002<=n):iter (kQ n p) n ((0:Int),([]:List (ByteArray×Bool)))=some (.inl ())\/iter (kQ n p) n ((0:Int),([]:List (ByteArray×Bool)))=some (.inr (.inr (.inr false))):=by
 obtain⟨o,h1,h2⟩:=dH (step:=kQ n p) (λ i (v:Int×List (ByteArray×Bool))=>∃m,v=((i:Int),m)/\i<=p.gives.length) (λ o=>o= .inl ()\/o= .inr (.inr (.inr false))) p.gives.length (λ k v ⟨_,_,h⟩=>h) (by
  rintro i v ⟨m,rfl,hi⟩;by_cases hlt:i<p.gives.length
  ·have key:∃b,((bif ((fO Gb.lf p.gives[i].name m).getD false)then some true else(wJ n p.gives[i].name).bind λr4=>(bif (!r4)then some true else(bif (decide (p.gives[i].n<(0:Int)))then some true else some (decide (p.gives[i].n>(1073741824:Int)))))):Option (Bool))=some b:=
    cZ ⟨_,rfl⟩ (sM (ajK _ hn) λ_=>cZ ⟨_,rfl⟩ (cZ ⟨_,rfl⟩ ⟨_,rfl⟩))
   obtain⟨b,hb⟩:=key;simp only[kQ,show decide ((i:Int)<(p.gives.length:Int))=true from by simp;omega,aj,bB hlt,af,hb,aL i];cases b with
   |true=>exact .inr ⟨_,rfl,.inr rfl⟩
   |false=>exact .inl ⟨_,rfl,_,rfl,hlt⟩
  ·simp only[kQ,show decide ((i:Int)<(p.gives.length:Int))=false from by simp;omega,ak];exact .inr ⟨_,rfl,.inl rfl⟩) n 0 _ ⟨[],rfl,Nat.zero_le _⟩ (by omega)
 rcases h2 with rfl |rfl
 ·exact .inl h1
 ·exact .inr h1
theorem agS{d:bq}(hd:Xn d)(hg:IN d)(hn:4000002<=n):iter (kR n d) n (0:Int)=some (.inl ())\/iter (kR n d) n (0:Int)=some (.inr false):=by
 have hd1:=hd.1;obtain⟨o,h1,h2⟩:=dH (step:=kR n d) (λ i (v:Int)=>v=(i:Int)/\i<=d.phases.length) (λ o=>o= .inl ()\/o= .inr false) d.phases.length (λ k v h=>h.2) (by
  rintro i v ⟨rfl,hi⟩;by_cases hlt:i<d.phases.length
  ·simp only[kR,show decide ((i:Int)<(d.phases.length:Int))=true from by simp;omega,aj,bB hlt,af,aL i];rcases agR (n:=n) (hg _ (getElem_mem hlt)) hn with h |h
   ·simp only[h,d9];cases decide ((d.phases[i].gives.length:Int)>30)with
    |true=>exact .inr ⟨_,rfl,.inr rfl⟩
    |false=>exact .inl ⟨_,rfl,rfl,hlt⟩
   ·simp only[h,gu];exact .inr ⟨_,rfl,.inr rfl⟩
  ·simp only[kR,show decide ((i:Int)<(d.phases.length:Int))=false from by simp;omega,ak];exact .inr ⟨_,rfl,.inl rfl⟩) n 0 0 ⟨rfl,Nat.zero_le _⟩ (by omega)
 rcases h2 with rfl |rfl
 ·exact .inl h1
 ·exact .inr h1
theorem JM{d:bq}(hd:Xn d):(kL d).length<=1000000:=by
 have:=dC hd.2;have:=hd.1;unfold kL;omega
theorem anr{d:bq}(hd:Xn d)(hg:IN d)(hn:4000002<=n):∃b,xO n d=some b/\(b=true->∀v∈kL d,okV v=true):=by
 simp only[xO,all_eq hd (show 1001<=n by omega),af];have key:∀c1 c2 c3 c4 c5 c6:Bool,∃b,((bif c1 then some true else(bif c2 then some true else(bif c3 then some true else(bif c4 then some true else(bif c5 then some true else some c6))))):Option Bool)=some b:=by
  intro c1 c2 c3 c4 c5 c6;exact cZ ⟨_,rfl⟩ (cZ ⟨_,rfl⟩ (cZ ⟨_,rfl⟩ (cZ ⟨_,rfl⟩ (cZ ⟨_,rfl⟩ ⟨_,rfl⟩))))
 have⟨b,hb⟩:=key (decide (d.lot<0)) (decide (d.lot>1073741824)) (decide ((d.phases.length:Int)<1)) (decide ((d.phases.length:Int)>8)) (decide (((kL d).length:Int)<1)) (decide (((kL d).length:Int)>40));rw[hb];cases b with
 |true=>exact⟨false,rfl,λh=>(by cases h)⟩
 |false=>
  simp only[af,ak];rcases agQ (n:=n) (JM hd) hn with h |⟨h,hall⟩
  ·simp only[h,gu];exact⟨false,rfl,λh=>(by cases h)⟩
  ·simp only[h,d9];rcases agS (n:=n) hd hg hn with h2 |h2
   ·simp only[h2,d9];exact⟨true,rfl,λ_=>hall⟩
   ·simp only[h2,gu];exact⟨false,rfl,λh=>(by cases h)⟩
theorem EW{l:List fV}{φ:(fV×Unit)->Option Bool}(p:fV->Bool)(h:∀x∈l,φ (x,())=some (p x))(hl:l.length<1099511627776)(hn:l.length<n):mG n l φ=some (l.any p):=by
 have:ve n l φ=some (xG p l):=gD p h hl hn;simp only[mG,this,af,xH]
theorem alV{lot:bU}{l:List aH}(ha:lot.area.length<=900)(hv:∀v∈l,okV v=true)(hl:l.length<=1000000)(hn:4000002<=n):iter (jU n lot l) n (0:Int)=some (.inl ())\/iter (jU n lot l) n (0:Int)=some (.inr false):=by
 obtain⟨o,h1,h2⟩:=dH (step:=jU n lot l) (λ i (v:Int)=>v=(i:Int)/\i<=l.length) (λ o=>o= .inl ()\/o= .inr false) l.length (λ k v h=>h.2) (by
  rintro i v ⟨rfl,hi⟩;by_cases hlt:i<l.length
  ·have hb:=Xm (hv _ (getElem_mem hlt));have hcl:=Oa (keep:=λp q=>p&&q) lot.area [iw l[i]];have hc:=N9 (n:=n) (a:=lot.area) (b:=[iw l[i]]) (by omega) (by simp) (by omega) (by simp;omega) (by omega);have hA:=Lb (n:=n) (a:=(o8 (λ p q=>p&&q) lot.area [iw l[i]]).1) (by omega) (by omega);have hr:=CX hb;simp only[iw]at hc hA hr;simp only[jU,show decide ((i:Int)<(l.length:Int))=true from by simp;omega,aj,aU hlt,aY hlt,af,show ∀r:ax,sub [r] 0 1=[r]from λ_=>rfl,length_singleton,aD,hc,hA,hr,aL i];have key:∀c x:Bool,∃b,((bif c then some true else some x):Option Bool)=some b:=λc x=>cZ ⟨_,rfl⟩ ⟨_,rfl⟩;obtain⟨b,hb2⟩:=key ((o8 (λ p q=>p&&q) lot.area [⟨l[i].bu,l[i].ca,l[i].br,l[i].b9⟩]).2 !=0) (decide ((bif cR (o8 (λ p q=>p&&q) lot.area [⟨l[i].bu,l[i].ca,l[i].br,l[i].b9⟩]).1 then La (o8 (λ p q=>p&&q) lot.area [⟨l[i].bu,l[i].ca,l[i].br,l[i].b9⟩]).1 else 0)<J1 ⟨l[i].bu,l[i].ca,l[i].br,l[i].b9⟩));rw[hb2];cases b with
   |true=>exact .inr ⟨_,rfl,.inr rfl⟩
   |false=>exact .inl ⟨_,rfl,rfl,hlt⟩
  ·simp only[jU,show decide ((i:Int)<(l.length:Int))=false from by simp;omega,ak];exact .inr ⟨_,rfl,.inl rfl⟩) n 0 0 ⟨rfl,Nat.zero_le _⟩ (by omega)
 rcases h2 with rfl |rfl
 ·exact .inl h1
 ·exact .inr h1
theorem alW{p:bn}{ph:rJ}(hc:p.caps.length<=4000000)(hp:ph.gives.length<=1000)(hn:4000002<=n):iter (jV n p ph) n (0:Int)=some (.inl ())\/iter (jV n p ph) n (0:Int)=some (.inr (.inr (.inr false))):=by
 obtain⟨o,h1,h2⟩:=dH (step:=jV n p ph) (λ i (v:Int)=>v=(i:Int)/\i<=ph.gives.length) (λ o=>o= .inl ()\/o= .inr (.inr (.inr false))) ph.gives.length (λ k v h=>h.2) (by
  rintro i v ⟨rfl,hi⟩;by_cases hlt:i<ph.gives.length
  ·simp only[jV,show decide ((i:Int)<(ph.gives.length:Int))=true from by simp;omega,aj,bB hlt,af,EW (n:=n) (l:=p.caps) (φ:=λ(y1:fV×Unit)=>u7 y1.1 ph.gives[i]) (λ c=>ByteArray.toList c.name==ByteArray.toList ph.gives[i].name) (λ _ _=>rfl) (by omega) (by omega),aL i];cases (p.caps.any λc=>ByteArray.toList c.name==ByteArray.toList ph.gives[i].name)with
   |false=>exact .inr ⟨_,rfl,.inr rfl⟩
   |true=>exact .inl ⟨_,rfl,rfl,hlt⟩
  ·simp only[jV,show decide ((i:Int)<(ph.gives.length:Int))=false from by simp;omega,ak];exact .inr ⟨_,rfl,.inl rfl⟩) n 0 0 ⟨rfl,Nat.zero_le _⟩ (by omega)
 rcases h2 with rfl |rfl
 ·exact .inl h1
 ·exact .inr h1
theorem alX{p:bn}{d:bq}(hc:p.caps.length<=4000000)(hd:Xn d)(hg:IN d)(hn:4000002<=n):iter (jW n p d) n (0:Int)=some (.inl ())\/iter (jW n p d) n (0:Int)=some (.inr false):=by
 have hd1:=hd.1;obtain⟨o,h1,h2⟩:=dH (step:=jW n p d) (λ i (v:Int)=>v=(i:Int)/\i<=d.phases.length) (λ o=>o= .inl ()\/o= .inr false) d.phases.length (λ k v h=>h.2) (by
  rintro i v ⟨rfl,hi⟩;by_cases hlt:i<d.phases.length
  ·simp only[jW,show decide ((i:Int)<(d.phases.length:Int))=true from by simp;omega,aj,bB hlt,af,aL i];rcases alW (n:=n) hc (hg _ (getElem_mem hlt)) hn with h |h
   ·simp only[h,d9];exact .inl ⟨_,rfl,rfl,hlt⟩
   ·simp only[h,gu];exact .inr ⟨_,rfl,.inr rfl⟩
  ·simp only[jW,show decide ((i:Int)<(d.phases.length:Int))=false from by simp;omega,ak];exact .inr ⟨_,rfl,.inl rfl⟩) n 0 0 ⟨rfl,Nat.zero_le _⟩ (by omega)
 rcases h2 with rfl |rfl
 ·exact .inl h1
 ·exact .inr h1
theorem ajM{p:bn}{lot:bU}{d:bq}(hc:p.caps.length<=4000000)(ha:lot.area.length<=900)(hd:Xn d)(hg:IN d)(hn:4000002<=n):∃b,oC n p lot d=some b/\(b=true->∀v∈kL d,okV v=true):=by
 have⟨b,hb,hv⟩:=anr (n:=n) hd hg hn;simp only[oC,hb,af];cases b with
 |false=>exact⟨false,by simp only[Bool.not_false,aj,af],λh=>(by cases h)⟩
 |true=>
  simp only[Bool.not_true,ak,lV (n:=n) (l:=lot.area) (by omega) (by omega) (by omega),af];cases (lot.id !=d.lot)with
  |true=>exact⟨false,by simp only[aj,af],λh=>(by cases h)⟩
  |false=>
   cases cR lot.area with
   |false=>exact⟨false,by simp only[Bool.not_false,aj,ak,af],λh=>(by cases h)⟩
   |true=>
    simp only[Bool.not_true,ak,af,all_eq hd (show 1001<=n by omega)];rcases alV (n:=n) ha (hv rfl) (JM hd) hn with h |h
    ·simp only[h,d9];rcases alX (n:=n) hc hd hg hn with h2 |h2
     ·simp only[h2,d9];exact⟨true,rfl,λ_=>hv rfl⟩
     ·simp only[h2,gu];exact⟨false,rfl,λh=>(by cases h)⟩
    ·simp only[h,gu];exact⟨false,rfl,λh=>(by cases h)⟩
end Go.Proofs
