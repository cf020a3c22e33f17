import Derived.Test.YtkgkglgpckgokaaGreatTD3
open Go.IntKind (i64)
open List (length_take mem_map all_eq_true getElem_mem length_map mem_iff_getElem append_nil length_drop length_nil foldl_cons take_of_length_le any_eq_true pairwise_cons length_filter_le pairwise_append getElem_drop)
namespace Go.Proofs
open Go.Gb Go.RowKit
variable {n:Nat}
theorem ku(a b:Int):cmp_Compare_int a b=some (if a<b then -1 else if b<a then 1 else 0):=by
 by_cases h1:a<b
 ·simp[cmp_Compare_int,cmp_isNaN_int,h1]
 ·by_cases h2:b<a
  ·simp[cmp_Compare_int,cmp_isNaN_int,h1,h2]
  ·simp[cmp_Compare_int,cmp_isNaN_int,h1,h2]
theorem oU{l:List Int}(hl:l.length<1099511627776)(_:l.length<n):oN n l=some (j4 oc l):=by
 show Kd l=_;unfold Kd;rw[Nat.ble_eq_true_of_le (show l.length<=1099511627775 by omega),aj]
theorem uf{l:List Int}(hl:l.length<1099511627776)(hn:l.length<n):oO n l=some ((),gH l):=by
 rw[<- adE];exact YE (eq:=λx y=>x==y) (ne:=λx y=>x !=y) (λ x y=>by simp[bne]) hl hn
theorem Si{l:List Int}{a:Int}(hl:l.length<1099511627776)(hn:l.length<n):El n l a=some (xw (λ x=>a==x) l):=Rv hl hn
theorem KW{l:List Int}{a:Int}(hl:l.length<1099511627776)(hn:l.length<n):qU n l a=some (l.any λx=>a==x):=by
 unfold qU;rw[Si hl hn,af,xA]
theorem Fy{l:List cu}{φ:(cu×Unit)->Option Bool}(p:cu->Bool)(h:∀x∈l,φ (x,())=some (p x))(hl:l.length<1099511627776)(hn:l.length<n):rC n l φ=some (xw p l):=gD p h hl hn
theorem Fz{l:List bR}{φ:(bR×Unit)->Option Bool}(p:bR->Bool)(h:∀x∈l,φ (x,())=some (p x))(hl:l.length<1099511627776)(hn:l.length<n):j6 n l φ=some (xw p l):=gD p h hl hn
theorem PZ{l:List ax}(h:l.length<1099511627776):AU l=some l:=Rw (b:=32) (by omega) (by simp only[maxLen];omega)
theorem NH{l:List (List ax)}(hf:l.flatten.length<1099511627776)(hl:l.length<1099511627776)(hn:l.length<n):yL n l=some l.flatten:=MX (ax.mk 0 0 0 0) (b:=32) hf (by omega) hl hn
theorem CF{a b:List ax}(hl:a.length<1099511627776)(hn:a.length<n):oh n a b=some (decide (a=b)):=by
 have e:oh n a b=Ul n (λ x1 x2:ax=>!((x1.x0==(x2.x0:Int))&&((x1.y0==(x2.y0:Int))&&((x1.x1==(x2.x1:Int))&&((x1.y1==(x2.y1:Int))&&true))))) a b:=by kernel_rfl
 rw[e];refine Rx (λ x y=>?_) hl hn;obtain⟨a,b,c,d⟩:=x;obtain⟨e,f,g,h⟩:=y;simp only[ax.mk.injEq,Bool.and_true];rw[jX];simp
theorem CG{a b:List aO}(hl:a.length<1099511627776)(hn:a.length<n):vz n a b=some (decide (a=b)):=by
 have e:vz n a b=Ul n (λ x1 x2:aO=>!((x1.from_==(x2.from_:Int))&&((x1.to==(x2.to:Int))&&true))) a b:=by kernel_rfl
 rw[e];refine Rx (λ x y=>?_) hl hn;obtain⟨a,b⟩:=x;obtain⟨c,d⟩:=y;simp only[aO.mk.injEq,Bool.and_true];rw[jX];simp
abbrev sY(a b:aO):Bool:=decide (a.from_<b.from_)
theorem NI:Go.Sort.SWO sY where
 irrefl x:=by simp[sY]
 trans x y z h1 h2:=by simp only[sY,aV]at *;omega
 ntrans x y z h1 h2:=by simp only[sY,dN]at *;omega
theorem JP{l:List aO}{φ:(aO×aO×Unit)->Option Int}(f:aO->aO->Int)(hφ:∀x y,φ (x,y,())=some (f x y))(hf:∀x y,decide (f x y<0)=sY x y)(hl:l.length<1099511627776)(_:l.length<n):uU n l φ=some (kY sY l):=
 adO f hφ hf NI hl
theorem EB{V O:Type}{step:V->Option (V⊕O)}(Inv:V->Prop)(Post:O->Prop)(μ:V->Nat)
 (h:∀v,Inv v->(∃ v',step v=some (.inl v')/\Inv v'/\μ v'< μ v)\/∃o,step v=some (.inr o)/\Post o):∀(n:Nat)(v:V),Inv v->μ v<n->∃o,iter step n v=some o/\Post o
 | 0,_,_,hn=>absurd hn (Nat.not_lt_zero _)
 |n+1,v,hi,hn=>by
  rcases h v hi with ⟨v',h1,h2,h3⟩ |⟨o,h1,h2⟩
  ·rw[iG h1];exact EB Inv Post μ h n v' h2 (by omega)
  ·exact⟨o,fH h1,h2⟩
theorem Ia:∀(N:Nat)(l:List Nat),l.Nodup->(∀ y∈l,y<N)->l.length<=N
 | 0,[],_,_=>aC _
 | 0,x::l,_,h=>absurd (h x (by simp)) (by omega)
 |N+1,l,hn,h=>by
  have h1:=Ia N (l.filter λy=>decide (y≠N)) (hn.filter _) (λ y hy=>by
   rw[List.mem_filter]at hy;have:=h y hy.1;have:=hy.2;simp only[aV]at this;omega)
  have h2:=List.length_eq_countP_add_countP (λ y=>decide (y≠N)) (l:=l);rw[List.countP_eq_length_filter]at h2;have h3:List.countP (λ a=>decide ¬(decide (a≠N)=true)) l=l.count N:=by
   rw[List.count];refine List.countP_congr λy _=>?_;simp
  have h4:=List.nodup_iff_count.1 hn N;omega
def YJ(us:List (List Int))(N:Nat):Prop:=us.length=N/\N<=4000000/\∀l∈us,l.length<=4000000/\∀k∈l,0<=k/\k<(N:Int)
structure BI(us:List (List Int))(N to h:Nat)(d:List Int)(F:List Nat):Prop where
 dl:d.length=N
 nd:F.Nodup
 rg:∀x∈F,x<N
 mem:∀i:Nat,i<N->(0<=d.getD i 0↔i∈F)
 ub:∀j x:Nat,F[j]? =some x->d.getD x 0<=(j:Int)
 pre:∀j x:Nat,F[j]? =some x->0<j->∃p y:Nat,p<j/\F[p]? =some y/\(y:Int)∈us.getD x []/\d.getD y 0=d.getD x 0 -1
 hd:F[0]? =some to/\d.getD to 0=0
 hh:h<=F.length
 cl:∀p y:Nat,p<h->F[p]? =some y->∀i:Nat,i<N->(y:Int)∈us.getD i []->0<=d.getD i 0
theorem BI.len{us:List (List Int)}{N to h:Nat}{d:List Int}{F:List Nat}(b:BI us N to h d F):F.length<=N:=by exact Ia N F b.nd b.rg
theorem BI.push{us:List (List Int)}{N to h:Nat}{d:List Int}{F:List Nat}(b:BI us N to h d F){i x p:Nat}(hi:i<N)(hd:d.getD i 0<0)(hp:F[p]? =some x)(hx:(x:Int)∈us.getD i []):
 BI us N to h (d.set i (d.getD x 0+1)) (F++[i]):=by
 have hiF:i∉F:=λhm=>by have:=(b.mem i hi).2 hm;omega
 have Rg:x∈F:=dh hp;have hne:∀y,y∈F->i≠y:=λy hy e=>hiF (e ▸ hy);have hset:∀y,y∈F->(d.set i (d.getD x 0+1)).getD y 0=d.getD y 0:=λy hy=>by simp only[List.getD,List.getElem?_set_ne (hne y hy)]
 have vf:(d.set i (d.getD x 0+1)).getD i 0=d.getD x 0+1:=by
  have:i<d.length:=by rw[b.dl];exact hi
  simp[List.getD,this]
 have hx0:0<=d.getD x 0:=(b.mem x (b.rg x Rg)).2 Rg;have hlt:p<F.length:=(dF.1 hp).1;refine⟨by simpa using b.dl,?_,?_,?_,?_,?_,?_,?_,?_⟩
 ·rw[List.nodup_append];exact⟨b.nd,by simp,λa ha c hc=>by simp at hc;subst hc;exact λe=>hiF (e ▸ ha)⟩
 ·intro y hy;rw[bf]at hy;rcases hy with hy |hy
  ·exact b.rg y hy
  ·simp at hy;omega
 ·intro j hj;by_cases e:i=j
  ·subst e;rw[vf];exact⟨λ _=>by simp,λ_=>by omega⟩
  ·simp only[List.getD,List.getElem?_set_ne e];rw[bf];have:=b.mem j hj;simp only[List.getD]at this;rw[this];simp[Ne.symm e]
 ·intro j y hy;rw[List.getElem?_append]at hy;split at hy
  ·rw[hset y (dh hy)];exact b.ub j y hy
  ·rename_i hj;have:y=i/\j=F.length:=by
    cases h:j -F.length with
    |zero=>rw[h]at hy;simp at hy;exact⟨hy.symm,by omega⟩
    |succ z=>rw[h]at hy;simp at hy
   obtain⟨rfl,rfl⟩:=this;rw[vf];have:=b.ub p x hp;omega
 ·intro j y hy hj;rw[List.getElem?_append]at hy;split at hy
  ·have⟨p',y',h1,h2,h3,h4⟩:=b.pre j y hy hj;exact⟨p',y',h1,by rw[List.getElem?_append_left (by have:=(dF.1 h2).1;exact this)];exact h2,h3,by rw[hset y' (dh h2),hset y (dh hy)];exact h4⟩
  ·rename_i hj';have:y=i/\j=F.length:=by
    cases h:j -F.length with
    |zero=>rw[h]at hy;simp at hy;exact⟨hy.symm,by omega⟩
    |succ z=>rw[h]at hy;simp at hy
   obtain⟨rfl,rfl⟩:=this;exact⟨p,x,hlt,by rw[List.getElem?_append_left hlt];exact hp,hx,by rw[vf,hset x Rg];omega⟩
 ·have h0:=(dF.1 b.hd.1).1;exact⟨by rw[List.getElem?_append_left h0];exact b.hd.1,by rw[hset _ (dh b.hd.1)];exact b.hd.2⟩
 ·have:=b.hh;simp;omega
 ·intro p' y hp' hy j hj hm;rw[List.getElem?_append_left (by have:=b.hh;omega)]at hy;have:=b.cl p' y hp' hy j hj hm;rw[hset j ((b.mem j hj).1 this)];exact this
theorem pj{α:Type}(o:Nat)(l:List α):Vo o l=l.drop o:=by cases o<;>simp[Vo]
def BS(us:List (List Int))(N to h x:Nat):(Int×Int×List Int×List Int)->Prop
 |(v4,v5,d,v7)=>∃(o i:Nat)(F:List Nat),v4=(o:Int)/\v5=(i:Int)/\o<=v7.length/\v7.drop o=(F.drop (h+1)).map (λ k:Nat=>(k:Int))/\i<=N/\BI us N to h d F/\F[h]? =some x/\∀i',i'<i->(x:Int)∈us.getD i' []->0<=d.getD i' 0
theorem am0{n N to h x:Nat}{a0:oM}{r1:List Int}(hg:YJ a0.uses N)(hr:r1.length=N)(hn:4000001<=n)(v:Int×Int×List Int×List Int)(hv:BS a0.uses N to h x v):
 (∃ v',fU n a0 r1 x v=some (.inl v')/\BS a0.uses N to h x v'/\N -v'.2.1.toNat<N -v.2.1.toNat)\/
 ∃q,fU n a0 r1 x v=some (.inr q)/\∃(o:Nat)(F:List Nat),q.1=(o:Int)/\o<=q.2.2.length/\q.2.2.drop o=(F.drop (h+1)).map (λ k:Nat=>(k:Int))/\BI a0.uses N to (h+1) q.2.1 F:=by
 obtain⟨v4,v5,d,v7⟩:=v;obtain⟨o,i,F,rfl,rfl,ho,hq,hi,hb,hx,hc⟩:=hv;have hx':x<N:=hb.rg x (dh hx);have E1:=hg.1;have hdl:=hb.dl;by_cases hlt:i<N
 ·left;have wc:i<a0.uses.length:=by omega
  have hl:=hg.2.2 a0.uses[i] (getElem_mem wc);have hcon:=KW (n:=n) (l:=a0.uses[i]) (a:=(x:Int)) (by omega) (by omega);have hud:a0.uses.getD i []=a0.uses[i]:=by simp[List.getD,wc]
  have hdi:d[i]'(by omega)=d.getD i 0:=by simp[List.getD,show i<d.length by omega]
  have E2:d[x]'(by omega)=d.getD x 0:=by simp[List.getD,show x<d.length by omega]
  simp only[fU,show decide ((i:Int)<((a0.uses.length:Int)))=true from by simp;omega,aj,bq wc,af,aT (show i<r1.length by omega),aT (show x<r1.length by omega),
   aY (show i<d.length by omega),aY (show x<d.length by omega),hcon,hdi,E2]
  have hFl:=hb.len;have hN:=hg.2.1;have hlen:v7.length -o=F.length -(h+1):=by have:=congrArg List.length hq;simpa using this
  have hmx:maxLen=9223372036854775807:=rfl;by_cases hA:d.getD i 0<0/\(x:Int)∈a0.uses[i]
  ·have h1:(a0.uses[i].any λy=>(x:Int)==y)=true:=any_eq_true.2 ⟨_,hA.2,by simp⟩;have hx0:0<=d.getD x 0:=(hb.mem x hx').2 (dh hx);have hxu:=hb.ub h x hx;have S6:h<F.length:=(dF.1 hx).1;have hap:bP (v7.drop o).length (v7.length -o) (sub [(i:Int)] 0 1).length 1 8=true:=(by simp[bP,sub];omega);have hw:i64.wrap (d.getD x 0+1)=d.getD x 0+1:=dS (by omega) (by omega);refine⟨(((0:Nat):Int),((i+1:Nat):Int),d.set i (d.getD x 0+1),v7.drop o++[(i:Int)]),?_,?_,by show N -((i+1:Nat):Int).toNat<N -(i:Int).toNat;omega⟩
   ·simp only[hA.1,decide_true,aj,af,h1,Int.toNat_natCast,pj,hap,dP,hw,aM i];simp[az,sub]
   ·refine⟨0,i+1,F++[i],rfl,rfl,Nat.zero_le _,?_,by omega,hb.push hlt hA.1 hx (by rw[hud];exact hA.2),by rw[List.getElem?_append_left S6];exact hx,?_⟩
    ·rw[List.drop_zero,hq,List.drop_append_of_le_length (by omega)];simp
    ·intro i' hi' hm;have hpush:=hb.push hlt hA.1 hx (by rw[hud];exact hA.2);by_cases e:i'=i
     ·subst e;exact(hpush.mem i' hlt).2 (by simp)
     ·have:=hc i' (by omega) hm;exact(hpush.mem i' (by omega)).2 (List.mem_append_left _ ((hb.mem i' (by omega)).1 this))
  ·have hB:(bif decide (d.getD i 0<0)then some (a0.uses[i].any λy=>(x:Int)==y)else some false)=some false:=by
    by_cases h2:d.getD i 0<0
    ·simp only[h2,decide_true,aj,aA];cases hc:(a0.uses[i].any λy=>(x:Int)==y)with
     |false=>rfl
     |true=>
      obtain⟨y,hy,e⟩:=any_eq_true.1 hc;obtain rfl:(x:Int)=y:=(by simpa using e);exact absurd ⟨h2,hy⟩ hA
    ·simp only[h2,decide_false,ak]
   refine⟨((o:Int),((i+1:Nat):Int),d,v7),?_,?_,by show N -((i+1:Nat):Int).toNat<N -(i:Int).toNat;omega⟩
   ·rw[hB];simp only[af,ak,Int.toNat_natCast,D5 (show o+(v7.length -o)=v7.length by omega),aj,aM i]
   ·refine⟨o,i+1,F,rfl,rfl,ho,hq,by omega,hb,hx,λi' hi' hm=>?_⟩;by_cases e:i'=i
    ·subst e;rw[hud]at hm;exact Int.not_lt.1 λh2=>hA ⟨h2,hm⟩
    ·exact hc i' (by omega) hm
 ·right;have hiN:i=N:=by omega
  have S6:h<F.length:=(dF.1 hx).1;refine⟨((o:Int),d,v7),?_,o,F,rfl,ho,hq,?_⟩
  ·simp only[fU,show decide ((i:Int)<((a0.uses.length:Int)))=false from by simp;omega,ak,Int.toNat_natCast,D5 (show o+(v7.length -o)=v7.length by omega),aj]
  ·refine⟨hb.dl,hb.nd,hb.rg,hb.mem,hb.ub,hb.pre,hb.hd,S6,λp y hp hy j hj hm=>?_⟩;by_cases e:p=h
   ·subst e;rw[hx]at hy;cases hy;exact hc j (by omega) hm
   ·exact hb.cl p y (by omega) hy j hj hm
def BO(us:List (List Int))(N to h:Nat):(Int×List Int×List Int)->Prop
 |(v1,d,v3)=>∃(o:Nat)(F:List Nat),v1=(o:Int)/\o<=v3.length/\v3.drop o=(F.drop h).map (λ k:Nat=>(k:Int))/\BI us N to h d F
theorem am1{n N to h:Nat}{a0:oM}{r1:List Int}(hg:YJ a0.uses N)(hr:r1.length=N)(hn:4000001<=n)(v:Int×List Int×List Int)(hv:BO a0.uses N to h v):
 (∃ v',dX n a0 r1 v=some (.inl v')/\BO a0.uses N to (h+1) v')\/∃d,dX n a0 r1 v=some (.inr d)/\∃F,BI a0.uses N to F.length d F:=by
 obtain⟨v1,d,v3⟩:=v;obtain⟨o,F,rfl,ho,hq,hb⟩:=hv;have hlen:v3.length -o=F.length -h:=by have:=congrArg List.length hq;simpa using this
 by_cases hlt:h<F.length
 ·left;obtain⟨x,hx⟩:∃x,F[h]? =some x:=⟨_,dI hlt⟩;have hox:v3[o]? =some (x:Int):=by
   have:=congrArg (λ l=>l[0]?) hq;simpa[hx]using this
  have hdr:v3.drop (o+1)=(F.drop (h+1)).map (λ k:Nat=>(k:Int)):=by
   have:=congrArg (λ l=>l.drop 1) hq;simpa using this
  obtain⟨q,hq1,o2,F2,hq2,hq3,hq4,hq5⟩:=EB (BS a0.uses N to h x) (λ q:Int×List Int×List Int=>∃(o:Nat)(F:List Nat),q.1=(o:Int)/\o<=q.2.2.length/\q.2.2.drop o=(F.drop (h+1)).map (λ k:Nat=>(k:Int))/\BI a0.uses N to (h+1) q.2.1 F)
   (λ v=>N -v.2.1.toNat) (am0 (r1:=r1) hg hr hn) n (((o+1:Nat):Int),0,d,v3) ⟨o+1,0,F,rfl,rfl,by omega,hdr,Nat.zero_le _,hb,hx,λi' hi'=>absurd hi' (Nat.not_lt_zero _)⟩ (by have:=hg.2.1;simp;omega)
  obtain⟨w1,w2,w3⟩:=q;simp only at hq2 hq3 hq4 hq5;subst hq2;refine⟨((o2:Int),w2,w3),?_,o2,F2,rfl,hq3,hq4,hq5⟩;have hat:bp v3 ((o:Int)+0)=some (x:Int):=by rw[Int.add_zero,ZZ];exact hox
  simp only[dX,Int.toNat_natCast,show decide (((v3.length -o:Nat):Int)>0)=true from by simp;omega,aj,show cC 0 (v3.length -o)=true from by simp[cC];omega,hat,af,
   yg (show (0:Int)<=1 by omega) (show (1:Int)<=((v3.length -o:Nat):Int)by omega) (Int.le_refl _),D5 (show o+1+(v3.length -o -1)=v3.length by omega),hq1,D5 (show o2+(w3.length -o2)=w3.length by omega)]
 ·right;have hhF:h=F.length:=by have:=hb.hh;omega
  refine⟨d,?_,F,hhF ▸ hb⟩;simp only[dX,Int.toNat_natCast,show decide (((v3.length -o:Nat):Int)>0)=false from by simp;omega,ak]
theorem dL{V O:Type}{step:V->Option (V⊕O)}(Inv:Nat->V->Prop)(Post:O->Prop)(K:Nat)(hK:∀k v,Inv k v->k<=K)
 (h:∀k v,Inv k v->(∃ v',step v=some (.inl v')/\Inv (k+1) v')\/∃o,step v=some (.inr o)/\Post o):∀(n k:Nat)(v:V),Inv k v->K<n+k->∃o,iter step n v=some o/\Post o
 | 0,k,v,hi,hn=>absurd (hK k v hi) (by omega)
 |n+1,k,v,hi,hn=>by
  rcases h k v hi with ⟨v',h1,h2⟩ |⟨o,h1,h2⟩
  ·rw[iG h1];exact dL Inv Post K hK h n (k+1) v' h2 (by omega)
  ·exact⟨o,fH h1,h2⟩
theorem abB{n N to:Nat}{a0:oM}(hg:YJ a0.uses N)(hd:a0.defs.length=N)(hn:4000002<=n)(ht:to<N):∃d F,jI n a0 to=some d/\BI a0.uses N to F.length d F:=by
 have hN:=hg.2.1;have hr:qx (sub ([(-1)]:List Int) 0 1) (N:Int)=some (List.replicate N (-1)):=by
  show(ck (decide (0<=(N:Int))&&decide ((N:Int)<=1000000000000)) (some (List.replicate (N:Int).toNat (-1))))=_;rw[show decide (0<=(N:Int))=true by simp,show decide ((N:Int)<=1000000000000)=true by simp;omega];rfl
 have hlr:(List.replicate N (-1:Int)).length=N:=List.length_replicate;have hb0:BI a0.uses N to 0 ((List.replicate N (-1:Int)).set to 0) [to]:=by
  have hto:((List.replicate N (-1:Int)).set to 0).getD to 0=0:=by simp[List.getD,ht]
  refine⟨by simp,by simp,λx hx=>by simp at hx;omega,λi hi=>?_,λj x hx=>?_,λj x hx hj=>?_,⟨rfl,hto⟩,by simp,λp y hp=>absurd hp (Nat.not_lt_zero _)⟩
  ·by_cases e:to=i
   ·subst e;rw[hto];simp
   ·simp only[List.getD,List.getElem?_set_ne e];simp[hi,Ne.symm e]
  ·cases j with
   |zero=>simp at hx;subst hx;rw[hto];simp
   |succ j=>simp at hx
  ·cases j with
   |zero=>omega
   |succ j=>simp at hx
 obtain⟨d,h1,F,h2⟩:=dL (step:=dX n a0 (List.replicate N (-1))) (λ h v=>BO a0.uses N to h v) (λ d=>∃F,BI a0.uses N to F.length d F) N (λ h v ⟨_,_,_,_,_,hb⟩=>Nat.le_trans hb.hh hb.len) (λ h v hv=>am1 (n:=n) (r1:=List.replicate N (-1)) hg hlr (by omega) v hv) n 0
  (((0:Nat):Int),(List.replicate N (-1:Int)).set to 0,[(to:Int)]) ⟨0,[to],rfl,Nat.zero_le _,rfl,hb0⟩ (by omega)
 refine⟨d,F,?_,h2⟩;have hdl:d.length=N:=h2.dl;have h1':iter (dX n a0 (List.replicate N (-1))) n ((0:Int),(List.replicate N (-1:Int)).set to 0,[(to:Int)])=some d:=h1;simp only[jI,hd,hr,af,hlr,aT ht,aY (show to<(List.replicate N (-1:Int)).length by omega),aj,show(((0:Nat):Int)+(to:Int)).toNat=to by omega,h1,h1'];simp[az,sub,hdl];exact take_of_length_le (Nat.le_of_eq hdl)
def Nr(d:List Int)(l:List Int)(w:Int):Prop:=
 (w= -1/\∀k∈l,d.getD k.toNat 0<0)\/(w∈l/\0<=d.getD w.toNat 0/\∀k∈l,0<=d.getD k.toNat 0->d.getD w.toNat 0<=d.getD k.toNat 0)
theorem Nr.snoc{d l:List Int}{w k:Int}(h:Nr d l w)(hk:0<=k)(hl:∀x∈l,0<=x):Nr d (l++[k]) (if 0<=d.getD k.toNat 0/\(w<0\/d.getD k.toNat 0<d.getD w.toNat 0)then k else w):=by
 split
 ·rename_i h1;refine .inr ⟨by simp,h1.1,λz hz h0=>?_⟩;rw[bf]at hz;rcases hz with hz |hz
  ·rcases h with ⟨rfl,h⟩ |⟨hw,hw0,h⟩
   ·have:=h z hz;omega
   ·have h2:=h z hz h0;have:=hl w hw;rcases h1.2 with h3 |h3<;>omega
  ·simp at hz;subst hz;exact Int.le_refl _
 ·rename_i h1;rcases h with ⟨rfl,h⟩ |⟨hw,hw0,h⟩
  ·refine .inl ⟨rfl,λz hz=>?_⟩;rw[bf]at hz;rcases hz with hz |hz
   ·exact h z hz
   ·simp at hz;subst hz;exact Int.not_le.1 λh2=>h1 ⟨h2,.inl (by omega)⟩
  ·refine .inr ⟨List.mem_append_left _ hw,hw0,λz hz h0=>?_⟩;rw[bf]at hz;rcases hz with hz |hz
   ·exact h z hz h0
   ·simp at hz;subst hz;exact Int.not_lt.1 λh2=>h1 ⟨h0,.inr h2⟩
theorem am2{n N:Nat}{d l:List Int}(hd:d.length=N)(hl:l.length<=4000000)(hr:∀k∈l,0<=k/\k<(N:Int))(hn:4000001<=n):∃w,iter (iD d l) n ((-1:Int),(0:Int))=some w/\Nr d l w:=by
 refine dL (λ i (v:Int×Int)=>i<=l.length/\v.2=(i:Int)/\Nr d (l.take i) v.1) (λ w=>Nr d l w) l.length (λ k v h=>h.1) ?_ n 0 _ ⟨Nat.zero_le _,rfl,.inl ⟨rfl,by simp⟩⟩ (by omega);rintro i ⟨v3,v4⟩ ⟨hi,rfl,hN⟩;by_cases hlt:i<l.length
 ·left;have hk:=hr l[i] (getElem_mem hlt);obtain⟨k,hk2⟩:=Int.eq_ofNat_of_zero_le hk.1;have hkN:k<d.length:=by omega
  have HC:d[k]=d.getD k 0:=by simp[List.getD,hkN]
  have htk:l.take (i+1)=l.take i++[l[i]]:=by rw[List.take_add_one,dI hlt];rfl
  have hlk:∀x∈l.take i,0<=x:=λx hx=>(hr x (List.mem_of_mem_take hx)).1;have hsn:=hN.snoc hk.1 hlk;refine⟨(if 0<=d.getD (l[i]).toNat 0/\(v3<0\/d.getD (l[i]).toNat 0<d.getD v3.toNat 0)then l[i]else v3,((i+1:Nat):Int)),?_,hlt,rfl,by rw[htk];exact hsn⟩;simp only[iD,show decide ((i:Int)<(l.length:Int))=true from by simp;omega,aj,bq hlt,af,hk2,aT hkN,aY hkN,HC,Int.toNat_natCast,aM i];by_cases h0:0<=d.getD k 0
  ·by_cases h1:v3<0
   ·simp only[h0,h1,ge_iff_le,decide_true,aj,af,true_and,true_or,if_true]
   ·have hv:v3∈l.take i:=by
     rcases hN with ⟨rfl,_⟩ |⟨h,_⟩
     ·omega
     ·exact h
    have AW:=hr v3 (List.mem_of_mem_take hv);obtain⟨z,hz⟩:=Int.eq_ofNat_of_zero_le AW.1;subst hz;have EV:z<d.length:=(by omega);have hgz:d[z]=d.getD z 0:=(by simp[List.getD,EV]);simp only[h0,ge_iff_le,decide_true,aj,h1,decide_false,ak,aT EV,aY EV,af,hgz,Int.toNat_natCast,true_and,false_or];by_cases h2:d.getD k 0<d.getD z 0
    ·simp only[h2,decide_true,aj,if_true,af]
    ·simp only[h2,decide_false,ak,if_false,af]
  ·simp only[h0,ge_iff_le,decide_false,ak,af,false_and,if_false]
 ·right;refine⟨v3,?_,?_⟩
  ·simp only[iD,show decide ((i:Int)<(l.length:Int))=false from by simp;omega,ak]
  ·rw[take_of_length_le (by omega)]at hN;exact hN
theorem BI.step{us:List (List Int)}{N to h:Nat}{d:List Int}{F:List Nat}(b:BI us N to h d F){x:Nat}(hx:x<N)(hne:x≠to)(h0:0<=d.getD x 0):∃y:Nat,(y:Int)∈us.getD x []/\d.getD y 0=d.getD x 0 -1/\0<=d.getD y 0:=by
 obtain⟨j,hj,hjx⟩:=mem_iff_getElem.1 ((b.mem x hx).1 h0);have hj':F[j]? =some x:=by rw[dI hj,hjx]
 have hj0:0<j:=by
  cases j with
  |zero=>rw[b.hd.1]at hj';cases hj';exact absurd rfl hne
  |succ j=>exact Nat.succ_pos _
 have⟨p,y,_,h2,h3,h4⟩:=b.pre j x hj' hj0;have hyF:=dh h2;exact⟨y,h3,h4,(b.mem y (b.rg y hyF)).2 hyF⟩
theorem ajh{n N fr:Nat}{a1:List fB}{us:List (List Int)}(hg:YJ us N)(hd:a1.length=N)(hn:4000003<=n)(hf:fr<N):∃d F c,BI us N fr F.length d F/\jK n fr a1 us=some (a1,us,c)/\c.length<=N+1/\(c=[]->∀k∈us.getD fr [],d.getD k.toNat 0<0):=by
 obtain⟨d,F,hdi,hb⟩:=abB (n:=n) (a0:=oM.mk a1 us) hg hd (by omega) hf;have hN:=hg.2.1;have E1:=hg.1;have hmx:maxLen=9223372036854775807:=rfl;have hloop:∃o,iter (kH n fr a1 us d) n ((fr:Int),([]:List ByteArray))=some o/\∃c,o= .inr (a1,us,c)/\c.length<=N+1/\(c=[]->∀k∈us.getD fr [],d.getD k.toNat 0<0):=by
  refine dL (λ k (v:Int×List ByteArray)=>∃at_:Nat,v.1=(at_:Int)/\at_<N/\v.2.length=k/\k<=N/\((k=0/\at_=fr)\/(0<k/\at_≠fr/\0<=d.getD at_ 0/\d.getD at_ 0+k<=N))) _ N (λ k v ⟨_,_,_,_,h,_⟩=>h) ?_ n 0 _ ⟨fr,rfl,hf,rfl,Nat.zero_le _,.inl ⟨rfl,rfl⟩⟩ (by omega);rintro k ⟨v1,v2⟩ ⟨x,rfl,hx,hv2,hkN,hst⟩;simp only at hv2;have hxa:x<a1.length:=by omega
  have hxu:x<us.length:=by omega
  have hl:=hg.2.2 us[x] (getElem_mem hxu);obtain⟨w,hw,hnr⟩:=am2 (n:=n) (d:=d) (l:=us[x]) hb.dl hl.1 hl.2 (by omega);have hgu:us.getD x []=us[x]:=by simp[List.getD,hxu]
  have hap:bP v2.length v2.length (sub [a1[x].name] 0 1).length 1 16=true:=by simp[bP,sub];omega
  simp only[kH,bq hxa,bq hxu,af,hap,aj,dP,hw];have hsl:(v2++sub [a1[x].name] 0 1).length=k+1:=by simp[sub,hv2]
  have hne:((v2++sub [a1[x].name] 0 1).length==0)=false:=by rw[hsl];simp
  rcases hnr with ⟨rfl,hno⟩ |⟨hwm,hw0,hmin⟩
  ·right;refine⟨.inr (a1,us,[]),by simp[az],[],rfl,by simp,λ_=>?_⟩;rcases hst with ⟨_,rfl⟩ |⟨_,Re,hx0,_⟩
   ·rw[hgu];exact hno
   ·have⟨y,hy,_,hy0⟩:=hb.step hx Re hx0;have hy':(y:Int)∈us[x]:=(by rw[<- hgu];exact hy);have:=hno _ hy';simp only[Int.toNat_natCast]at this;omega
  ·have hwr:=hl.2 w hwm;obtain⟨z,rfl⟩:=Int.eq_ofNat_of_zero_le hwr.1;simp only[Int.toNat_natCast]at hw0 hmin;by_cases hzf:z=fr
   ·right;subst hzf;refine⟨.inr (a1,us,v2++sub [a1[x].name] 0 1),?_,_,rfl,by omega,λh=>by rw[h]at hsl;simp at hsl⟩;simp only[show decide ((z:Int)<0)=false from by simp,ak,beq_self_eq_true,aj,hne,Bool.not_false,Bool.true_and,aD,Option.map_some]
   ·left;have EV:z<N:=(by omega);have hb1:d.getD z 0+((k+1:Nat):Int)<=N:=by
     rcases hst with ⟨hk0,rfl⟩ |⟨_,Re,hx0,hle⟩
     ·have hzF:=(hb.mem z EV).1 hw0;obtain⟨j,hj,hjz⟩:=mem_iff_getElem.1 hzF;have h3:=hb.ub j z (by rw[dI hj,hjz]);have:=hb.len;omega
     ·have⟨y,hy,hyd,hy0⟩:=hb.step hx Re hx0;have:=hmin y (by rw[<- hgu];exact hy) (by simpa using hy0);simp only[Int.toNat_natCast]at this;omega
    refine⟨((z:Int),v2++sub [a1[x].name] 0 1),?_,z,rfl,EV,hsl,by omega,.inr ⟨Nat.succ_pos _,hzf,hw0,hb1⟩⟩;simp only[show decide ((z:Int)<0)=false from by simp,ak,show((z:Int)==(fr:Int))=false from by simp;omega,aD,aj]
 obtain⟨o,h1,c,rfl,h2⟩:=hloop;refine⟨d,F,c,hb,?_,h2⟩;simp only[jK,hdi,af,h1];simp[az]
theorem abC(a b:ByteArray):∃r,nG a b=some r:=by
 simp only[nG,cmp_isNaN_string,af];cases (!a.toList==a.toList)<;>cases (!b.toList==b.toList)<;>cases Vk a b<;>cases (a.toList==b.toList)<;>exact⟨_,rfl⟩
theorem abD{a b:List ByteArray}(ha:a.length<=5000000)(hn:5000001<=n):∃r,lK n a b=some r:=by
 obtain⟨o,h,_⟩:=dL (step:=lJ a b) (λ i (v:Int)=>v=(i:Int)/\i<=a.length) (λ _=>True) a.length (λ k v h=>h.2) (by
  rintro i v ⟨rfl,hi⟩;by_cases hlt:i<a.length
  ·simp only[lJ,show decide ((i:Int)<(a.length:Int))=true from by simp;omega,aj,bq hlt,af];by_cases hb:i<b.length
   ·have⟨r,hr⟩:=abC a[i] b[i];simp only[show decide ((i:Int)>=(b.length:Int))=false from by simp;omega,ak,bq hb,af,hr];cases hr0:(r !=(0:Int))with
    |true=>exact .inr ⟨_,rfl,trivial⟩
    |false=>exact .inl ⟨_,rfl,by rw[bK (by omega)],by omega⟩
   ·simp only[show decide ((i:Int)>=(b.length:Int))=true from by simp;omega,aj];exact .inr ⟨_,rfl,trivial⟩
  ·simp only[lJ,show decide ((i:Int)<(a.length:Int))=false from by simp;omega,ak];exact .inr ⟨_,rfl,trivial⟩) n 0 0 ⟨rfl,Nat.zero_le _⟩ (by omega)
 simp only[lK,h];cases o with
 |inl u=>cases u;simp only[eD];cases decide ((a.length:Int)<(b.length:Int))<;>exact⟨_,rfl⟩
 |inr r=>exact⟨r,by simp⟩
def td(us:List (List Int))(N j:Nat):Prop:=∃d F,BI us N j F.length d F/\∀k∈us.getD j [],d.getD k.toNat 0<0
theorem adV{n N:Nat}{a0:List fB}{us:List (List Int)}(hg:YJ us N)(hd:a0.length=N)(hn:5000003<=n):∃c,iT n a0 us=some (a0,us,c)/\(c=[]->∀j,j<N->td us N j)/\c.length<=N+1:=by
 have hN:=hg.2.1
 obtain⟨o,h1,c,rfl,h2⟩:=dL (step:=gU n a0) (λ i (v:Int×List fB×List (List Int)×List ByteArray)=>∃c,v=((i:Int),a0,us,c)/\i<=N/\c.length<=N+1/\(c=[]->∀j,j<i->td us N j))
  (λ o=>∃c,o=(a0,us,c)/\(c=[]->∀j,j<N->td us N j)/\c.length<=N+1) N (λ k v ⟨_,_,h,_⟩=>h) (by
  rintro i v ⟨c,rfl,hi,hcl,hc⟩;by_cases hlt:i<N
  ·left;obtain⟨d,F,c2,hb,hci,SP,hc2⟩:=ajh (n:=n) (a1:=a0) hg hd (by omega) hlt;simp only[gU,show decide ((i:Int)<(a0.length:Int))=true from by simp;omega,aj,hci,af,aM i,cZ,aD];have hfin:∀c':List ByteArray,c'.length<=N+1->(c'=[]->c=[]/\c2=[])->∃c'',(((i+1:Nat):Int),a0,us,c')=(((i+1:Nat):Int),a0,us,c'')/\i+1<=N/\c''.length<=N+1/\(c''=[]->∀j,j<i+1->td us N j):=λc' hl' he=>
    ⟨c',rfl,hlt,hl',λe j hj=>by
     have⟨e1,e2⟩:=he e;by_cases h:j=i
     ·subst h;exact⟨d,F,hb,hc2 e2⟩
     ·exact hc e1 j (by omega)⟩
   obtain⟨r,hr⟩:=abD (n:=n) (a:=c2) (b:=c) (by omega) (by omega);cases h0:(c2.length==0)with
   |true=>
    have e2:c2=[]:=List.eq_nil_of_length_eq_zero (by simpa using h0);exact⟨_,by simp only[aj,af],hfin c hcl λe=>⟨e,e2⟩⟩
   |false=>
    have hne:c2≠[]:=λe=>(by rw[e]at h0;simp at h0);simp only[ak,af];have key:∃b,(bif c.length==0 then some true else bif decide ((c2.length:Int)<(c.length:Int))then some true else bif(c2.length:Int)==(c.length:Int)then(lK n c2 c).bind λr2=>some (decide (r2<0))else some false)=some b/\(c.length=0->b=true):=by
     cases h3:(c.length==0)with
     |true=>exact⟨true,rfl,λ_=>rfl⟩
     |false=>
      have hcn:c.length≠0:=(by simpa using h3);simp only[ak,hr,af];cases decide ((c2.length:Int)<(c.length:Int))<;>cases ((c2.length:Int)==(c.length:Int))<;>exact⟨_,rfl,λe=>absurd e hcn⟩
    obtain⟨b,hb1,hb2⟩:=key;rw[hb1];cases b with
    |true=>exact⟨_,by simp only[aj,af],hfin c2 SP λe=>absurd e hne⟩
    |false=>exact⟨_,by simp only[ak,af],hfin c hcl λe=>by rw[e]at hb2;exact absurd (hb2 rfl) (by simp)⟩
  ·right;refine⟨(a0,us,c),?_,c,rfl,λe j hj=>hc e j (by omega),hcl⟩;simp only[gU,show decide ((i:Int)<(a0.length:Int))=false from by simp;omega,ak,aD,aj]) n 0 ((0:Int),a0,us,[]) ⟨[],rfl,Nat.zero_le _,by simp,λ_ j hj=>absurd hj (Nat.not_lt_zero _)⟩ (by omega)
 exact⟨c,by simp[iT,h1,az],h2⟩
theorem BI.back{us:List (List Int)}{N to:Nat}{d:List Int}{F:List Nat}(b:BI us N to F.length d F){i y:Nat}(hi:i<N)(hy:y<N)(h:(y:Int)∈us.getD i [])(h0:0<=d.getD y 0):0<=d.getD i 0:=by
 obtain⟨j,hj,hjy⟩:=mem_iff_getElem.1 ((b.mem y hy).1 h0);exact b.cl j y hj (by rw[dI hj,hjy]) i hi h
theorem am3{us:List (List Int)}{N:Nat}(hg:YJ us N)(hf:∀j,j<N->td us N j)(done:Nat->Prop){i0:Nat}(h0:i0<N)(hd0:¬done i0):∃i,i<N/\¬done i/\∀k∈us.getD i [],done k.toNat:=by
 refine uL λhno=>?_;have hstep:∀i:{i:Nat // i<N/\¬done i},∃k:{k:Nat // k<N/\¬done k},(k.1:Int)∈us.getD i.1 []:=by
  rintro⟨i,hi,hnd⟩;refine uL λh=>hno ⟨i,hi,hnd,λk hk=>uL λhkd=>h ?_⟩;have hl:us.getD i []∈us:=by
   have:i<us.length:=(by rw[hg.1];exact hi);simp[List.getD,this]
  have hr:=(hg.2.2 _ hl).2 k hk;exact⟨⟨k.toNat,by omega,hkd⟩,by show(k.toNat:Int)∈_;rw[Int.toNat_of_nonneg hr.1];exact hk⟩
 obtain⟨f,hfs⟩:=Classical.axiomOfChoice hstep
 let g:Nat->{i:Nat // i<N/\¬done i}:=λj=>Nat.rec ⟨i0,h0,hd0⟩ (λ _ x=>f x) j
 have hgs:∀j,((g (j+1)).1:Int)∈us.getD (g j).1 []:=λj=>hfs (g j);have hnd:¬((List.range (N+1)).map λj=>(g j).1).Nodup:=λh=>by
  have:=Ia N _ h λy hy=>by
   obtain⟨j,_,rfl⟩:=mem_map.1 hy;exact(g j).2.1
  rw[length_map,List.length_range]at this;omega
 obtain⟨a,b,hab,he⟩:∃a b,a<b/\(g a).1=(g b).1:=by
  refine uL λh=>hnd ?_;rw[List.nodup_iff_pairwise_ne,List.pairwise_map];exact List.pairwise_lt_range.imp λ{x y} hxy e=>h ⟨x,y,hxy,e⟩
 obtain⟨d,F,hb,hneg⟩:=hf _ (g a).2.1;have hall:∀c,a<b -c->c<b -a->0<=d.getD (g (b -c)).1 0:=by
  intro c
  induction c with
  |zero=>intro _ _;rw[Nat.sub_zero,<- he,hb.hd.2];exact Int.le_refl _
  |succ c ih=>
   intro h1 h2;have:=ih (by omega) (by omega);have e:b -c=b -(c+1)+1:=(by omega);rw[e]at this;exact hb.back (g (b -(c+1))).2.1 (g (b -(c+1)+1)).2.1 (hgs (b -(c+1))) this
 have h1:=hall (b -a -1) (by omega) (by omega);have e:b -(b -a -1)=a+1:=by omega
 rw[e]at h1;have h2:=hneg _ (hgs a);simp only[Int.toNat_natCast]at h2;omega
theorem adW{n N:Nat}{l:List Int}{done:List Bool}(hd:done.length=N)(hl:l.length<=4000000)(hr:∀k∈l,0<=k/\k<(N:Int))(hn:4000001<=n):
 ∃r,ig n l done=some (r,done)/\(r=false↔∀k∈l,done.getD k.toNat false=true):=by
 obtain⟨o,h1,h2⟩:=dL (step:=jJ l) (λ i (v:Int×List Bool)=>v=((i:Int),done)/\i<=l.length/\∀k∈l.take i,done.getD k.toNat false=true)
  (λ o=>(o= .inl done/\∀k∈l,done.getD k.toNat false=true)\/∃i:Nat,o= .inr ((i:Int),done)/\∃k∈l,done.getD k.toNat false=false) l.length (λ k v h=>h.2.1) (by
  rintro i v ⟨rfl,hi,hall⟩;by_cases hlt:i<l.length
  ·have hk:=hr l[i] (getElem_mem hlt);obtain⟨k,hk2⟩:=Int.eq_ofNat_of_zero_le hk.1;have hkN:k<done.length:=(by omega);have HC:done[k]=done.getD k false:=(by simp[List.getD,hkN]);have htk:l.take (i+1)=l.take i++[l[i]]:=(by rw[List.take_add_one,dI hlt];rfl);simp only[jJ,show decide ((i:Int)<(l.length:Int))=true from by simp;omega,aj,bq hlt,af,aD,hk2,l5,aT hkN,aY hkN,HC];cases hdk:done.getD k false with
   |true=>
    refine .inl ⟨_,by simp only[Bool.not_true,ak];rfl,by rw[bK (by omega)],hlt,λz hz=>?_⟩;rw[htk,bf]at hz;rcases hz with hz |hz
    ·exact hall z hz
    ·simp only[aW]at hz;rw[hz,hk2];simpa using hdk
   |false=>exact .inr ⟨_,by simp only[Bool.not_false,aj,Option.map_some],.inr ⟨i,rfl,l[i],getElem_mem hlt,by rw[hk2];simpa using hdk⟩⟩
  ·refine .inr ⟨.inl done,?_,.inl ⟨rfl,by rw[take_of_length_le (by omega)]at hall;exact hall⟩⟩;simp only[jJ,show decide ((i:Int)<(l.length:Int))=false from by simp;omega,ak,aD,aj]) n 0 ((0:Int),done) ⟨rfl,Nat.zero_le _,by simp⟩ (by omega)
 rcases h2 with ⟨rfl,h2⟩ |⟨i,rfl,k,hk,hkd⟩
 ·exact⟨false,by simp[ig,mE,h1],λ_=>h2,λ_=>rfl⟩
 ·refine⟨true,by simp[ig,mE,h1],λh=>(by cases h),λh=>?_⟩;rw[h k hk]at hkd;cases hkd
def Lk(us:List (List Int))(N:Nat)(done:List Bool)(i:Nat)(w:Int):Prop:=
 (w= -1/\∀j,j<i->¬(done.getD j false=false/\∀k∈us.getD j [],done.getD k.toNat false=true))\/∃j:Nat,w=(j:Int)/\j<i/\done.getD j false=false
theorem alj{n N:Nat}{a0:oM}{done:List Bool}(hg:YJ a0.uses N)(hd:a0.defs.length=N)(hl:done.length=N)(hn:4000002<=n):∃w,iter (iK n a0) n ((-1:Int),(0:Int),done)=some (w,done)/\Lk a0.uses N done N w:=by
 have hN:=hg.2.1;have E1:=hg.1;obtain⟨o,h1,w,rfl,h2⟩:=dL (step:=iK n a0) (λ i (v:Int×Int×List Bool)=>∃w,v=(w,(i:Int),done)/\i<=N/\Lk a0.uses N done i w) (λ o=>∃w,o=(w,done)/\Lk a0.uses N done N w) N (λ k v ⟨_,_,h,_⟩=>h) (by
  rintro i v ⟨w,rfl,hi,hw⟩;by_cases hlt:i<N
  ·left;have hiu:i<a0.uses.length:=(by omega);have hid:i<a0.defs.length:=(by omega);have hib:i<done.length:=(by omega);have hl2:=hg.2.2 a0.uses[i] (getElem_mem hiu);obtain⟨r,hr1,hr2⟩:=adW (n:=n) hl hl2.1 hl2.2 (by omega);have hgi:a0.uses.getD i []=a0.uses[i]:=(by simp[List.getD,hiu]);have hdi:done[i]=done.getD i false:=(by simp[List.getD,hib]);simp only[iK,show decide ((i:Int)<(a0.uses.length:Int))=true from by simp;omega,aj,bq hiu,af,aD,hr1,aT hib,aY hib,hdi,aM i];have keep:(done.getD i false=true\/r=true)->Lk a0.uses N done (i+1) w:=by
    intro hno;rcases hw with ⟨rfl,hw⟩ |⟨j,rfl,hj,hw⟩
    ·refine .inl ⟨rfl,λj hj h=>?_⟩;by_cases e:j=i
     ·subst e;rw[hgi]at h;rcases hno with h3 |h3
      ·rw[h3]at h;exact absurd h.1 (by simp)
      ·have:=hr2.2 h.2;rw[h3]at this;cases this
     ·exact hw j (by omega) h
    ·exact .inr ⟨j,rfl,by omega,hw⟩
   cases hdn:done.getD i false with
   |true=>exact⟨_,by simp only[Bool.not_true,ak,af],w,rfl,hlt,keep (.inl hdn)⟩
   |false=>
    cases r with
    |true=>exact⟨_,by simp only[Bool.not_false,Bool.not_true,aj,ak,af],w,rfl,hlt,keep (.inr rfl)⟩
    |false=>
     have an:Lk a0.uses N done (i+1) i:= .inr ⟨i,rfl,by omega,hdn⟩;rcases hw with ⟨rfl,hw⟩ |⟨j,rfl,hj,hw⟩
     ·exact⟨_,by simp only[Bool.not_false,aj,show decide ((-1:Int)<0)=true from rfl,af],_,rfl,hlt,an⟩
     ·have hjd:j<a0.defs.length:=(by omega);simp only[Bool.not_false,aj,show decide ((j:Int)<0)=false from by simp,ak,bq hid,bq hjd,af];cases Vk a0.defs[i].name a0.defs[j].name with
      |true=>exact⟨_,rfl,_,rfl,hlt,an⟩
      |false=>exact⟨_,rfl,_,rfl,hlt,.inr ⟨j,rfl,by omega,hw⟩⟩
  ·right;have hiN:i=N:=(by omega);refine⟨(w,done),?_,w,rfl,hiN ▸ hw⟩;simp only[iK,show decide ((i:Int)<(a0.uses.length:Int))=false from by simp;omega,ak,aD,aj]) n 0 ((-1:Int),(0:Int),done) ⟨_,rfl,Nat.zero_le _,.inl ⟨rfl,λj hj=>absurd hj (Nat.not_lt_zero _)⟩⟩ (by omega)
 exact⟨w,h1,h2⟩
theorem alk{n N:Nat}{a0:oM}(hg:YJ a0.uses N)(hd:a0.defs.length=N)(hf:∀j,j<N->td a0.uses N j)(hn:4000002<=n):∃l,nH n a0=some l/\l.length=N/\∀k∈l,0<=k/\k<(N:Int):=by
 have hN:=hg.2.1;have hmx:maxLen=9223372036854775807:=rfl
 obtain⟨o,h1,h2⟩:=dL (step:=kD n a0) (λ c (v:Int×List Int×List Bool)=>∃ab done,v=((c:Int),ab,done)/\c<=N/\ab.length=c/\(∀ k∈ab,0<=k/\k<(N:Int))/\done.length=N/\done.count false=N -c)
  (λ o=>o.length=N/\∀k∈o,0<=k/\k<(N:Int)) N (λ k v ⟨_,_,_,h,_⟩=>h) (by
  rintro c v ⟨ab,done,rfl,hc,hol,hor,hdl,hcf⟩;by_cases hlt:c<N
  ·left;have⟨w,hw1,hw2⟩:=alj (n:=n) hg hd hdl hn;have hopen:∃i0,i0<N/\done.getD i0 false=false:=by
    have hm:false∈done:=List.count_pos_iff.1 (by omega);obtain⟨i0,h0,e⟩:=mem_iff_getElem.1 hm;exact⟨i0,by omega,by simp[List.getD,h0,e]⟩
   obtain⟨i0,h0,h0d⟩:=hopen;obtain⟨i,hi,hid,hia⟩:=am3 hg hf (λ j=>done.getD j false=true) h0 (by rw[h0d];simp);rcases hw2 with ⟨rfl,hw2⟩ |⟨j,rfl,hj,hjd⟩
   ·exact absurd ⟨Bool.eq_false_iff.2 hid,hia⟩ (hw2 i hi)
   ·have hjl:j<done.length:=(by omega);have hap:bP ab.length ab.length (sub [(j:Int)] 0 1).length 1 8=true:=(by simp[bP,sub];omega);have hset:(done.set j true).length=done.length:=(by simp);refine⟨(((c+1:Nat):Int),ab++[(j:Int)],done.set j true),?_,_,_,rfl,hlt,by simp[hol],?_,by simp[hdl],?_⟩
    ·simp only[kD,show decide ((c:Int)<(a0.defs.length:Int))=true from by simp;omega,aj,aD,hw1,af,aT hjl,aY hjl,hap,dP,aM c,show(((0:Nat):Int)+(j:Int)).toNat=j by omega,D5 hset.symm];simp[sub]
    ·intro k hk;rw[bf]at hk;rcases hk with hk |hk
     ·exact hor k hk
     ·simp at hk;subst hk;omega
    ·have hjf:done[j]=false:=(by simpa[List.getD,hjl]using hjd);rw[List.count_set hjl,hcf,hjf];simp;omega
  ·right;have:c=N:=(by omega);refine⟨ab,?_,by omega,hor⟩;simp only[kD,show decide ((c:Int)<(a0.defs.length:Int))=false from by simp;omega,ak,aD,aj]) n 0 ((0:Int),[],List.replicate N false) ⟨[],_,rfl,Nat.zero_le _,rfl,by simp,by simp,by simp⟩ (by omega)
 refine⟨o,?_,h2⟩;have hmk:zx (N:Int) 1=true:=by simp[zx];omega
 simp only[nH,hd,Int.le_refl,decide_true,Bool.true_and,show decide ((0:Int)<=(N:Int))=true from by simp,hmk,aj,Int.toNat_natCast,h1,af,cZ,aD];simp[az]
def oX(ab:List aO)(s:aO):List aO:=
 match ab.getLast? with
 |some q=>bif decide (s.from_<=q.to)then ab.dropLast++[⟨q.from_,max q.to s.to⟩]else ab++[s]
 |none=>[s]
theorem WK(ab:List aO)(s:aO):(oX ab s).length<=ab.length+1:=by
 unfold oX;cases ab.getLast? with
 |none=>simp
 |some q=>simp only;cases decide (s.from_<=q.to)<;>simp<;>omega
theorem agh(o:List aO)(q s:aO):oX (o++[q]) s=bif decide (s.from_<=q.to)then o++[⟨q.from_,max q.to s.to⟩]else o++[q]++[s]:=by simp[oX]
abbrev DQ(s:aO):Prop:=s.from_<s.to
def hZ(l:List aO)(y:Int):Bool:=l.any λs=>decide (s.from_<=y)&&decide (y<s.to)
def Can(l:List aO):Prop:=l.Pairwise (λ a b=>a.to<b.from_)/\∀s∈l,DQ s
theorem NJ(l:List aO)(y:Int):hZ l y=true↔∃s∈l,s.from_<=y/\y<s.to:=by simp[hZ]
theorem EC(l m:List aO)(y:Int):hZ (l++m) y=(hZ l y || hZ m y):=by simp[hZ]
theorem JB(y:Int):hZ [] y=false:=rfl
theorem nW(s:aO)(l:List aO)(y:Int):hZ (s::l) y=((decide (s.from_<=y)&&decide (y<s.to)) || hZ l y):=by simp[hZ]
theorem adX{l m:List aO}(h:l.Perm m)(y:Int):hZ l y=hZ m y:=by
 rw[jX,NJ,NJ];exact⟨λ ⟨s,hs,h1⟩=>⟨s,h.mem_iff.1 hs,h1⟩,λ⟨s,hs,h1⟩=>⟨s,h.mem_iff.2 hs,h1⟩⟩
theorem ah4:Can []:=⟨List.Pairwise.nil,by simp⟩
theorem alm{ab:List aO}{s:aO}(hc:Can ab)(hs:DQ s)(hb:∀o∈ab,o.from_<=s.from_):
 Can (oX ab s)/\(∀ o∈oX ab s,o.from_<=s.from_)/\∀y,hZ (oX ab s) y=(hZ ab y || hZ [s] y):=by
 rcases List.eq_nil_or_concat ab with rfl |⟨o,q,rfl⟩
 ·refine⟨⟨by simp[oX],by simp[oX];exact hs⟩,by simp[oX],λy=>by simp[oX,hZ]⟩
 ·rw[List.concat_eq_append]at*;obtain⟨h1,h2⟩:=hc;rw[pairwise_append]at h1;obtain⟨p1,_,p3⟩:=h1;have hq:DQ q:=h2 q (by simp);have hqs:q.from_<=s.from_:=hb q (by simp);rw[agh];by_cases hj:s.from_<=q.to
  ·simp only[hj,decide_true,aj];refine⟨⟨?_,?_⟩,?_,?_⟩
   ·rw[pairwise_append];refine⟨p1,by simp,λa ha b hb'=>?_⟩;rw[aW]at hb';subst hb';exact p3 a ha q (by simp)
   ·intro a ha;rcases bf.1 ha with ha |ha
    ·exact h2 a (by simp[ha])
    ·rw[aW]at ha;subst ha;show q.from_<max q.to s.to;have:q.from_<q.to:=hq;omega
   ·intro a ha;rcases bf.1 ha with ha |ha
    ·exact hb a (by simp[ha])
    ·rw[aW]at ha;subst ha;exact hqs
   ·intro y;rw[EC,EC,Bool.or_assoc];congr 1;simp only[nW,JB,Bool.or_false];rw[jX];simp only[aL,Bool.or_eq_true,aV];have:q.from_<q.to:=hq;have:s.from_<s.to:=hs;omega
  ·simp only[hj,decide_false,ak];refine⟨⟨?_,?_⟩,?_,?_⟩
   ·rw[pairwise_append];refine⟨?_,by simp,λa ha b hb'=>?_⟩
    ·rw[pairwise_append];exact⟨p1,by simp,p3⟩
    ·rw[aW]at hb';subst hb';rcases bf.1 ha with ha |ha
     ·have:=p3 a ha q (by simp);have:q.from_<q.to:=hq;omega
     ·rw[aW]at ha;subst ha;omega
   ·intro a ha;rcases bf.1 ha with ha |ha
    ·exact h2 a ha
    ·rw[aW]at ha;subst ha;exact hs
   ·intro a ha;rcases bf.1 ha with ha |ha
    ·exact hb a ha
    ·rw[aW]at ha;subst ha;exact Int.le_refl _
   ·intro y;rw[EC]
theorem P5:∀(l ab:List aO),Can ab->(∀ s∈l,DQ s)->l.Pairwise (λ x y=>x.from_<=y.from_)->(∀ o∈ab,∀s∈l,o.from_<=s.from_)->Can (l.foldl oX ab)/\∀y,hZ (l.foldl oX ab) y=(hZ ab y || hZ l y)
 |[],ab,hc,_,_,_=>⟨hc,λy=>by simp[JB]⟩
 |s::l,ab,hc,hv,hp,hb=>by
  rw[pairwise_cons]at hp;obtain⟨m1,m2,m3⟩:=alm hc (hv s (by simp)) (λ o ho=>hb o ho s (by simp));obtain⟨f1,f2⟩:=P5 l (oX ab s) m1 (λ t ht=>hv t (by simp[ht])) hp.2 (λ o ho t ht=>Int.le_trans (m2 o ho) (hp.1 t ht));refine⟨f1,λy=>?_⟩;rw[foldl_cons,f2,m3,Bool.or_assoc,<- EC];rfl
theorem adY{a:aO}{l:List aO}(h:Can (a::l)):Can l:=⟨(pairwise_cons.1 h.1).2,λs hs=>h.2 s (by simp[hs])⟩
theorem JC{a:aO}{l:List aO}(h:Can (a::l)){y:Int}(hy:hZ l y=true):a.to<y:=by
 obtain⟨s,hs,h1,_⟩:=(NJ _ _).1 hy;have:=(pairwise_cons.1 h.1).1 s hs;omega
theorem aai{a:aO}{l:List aO}(h:Can (a::l)){y:Int}(hy:hZ (a::l) y=true):a.from_<=y:=by
 rw[nW,Bool.or_eq_true]at hy;rcases hy with hy |hy
 ·simp only[aL,aV]at hy;exact hy.1
 ·have:=JC h hy;have:a.from_<a.to:=h.2 a (by simp);omega
theorem WL:∀{l m:List aO},Can l->Can m->(∀ y,hZ l y=hZ m y)->l=m
 |[],[],_,_,_=>rfl
 |[],b::m,_,hm,h=>by
  have:=h b.from_;have hb:b.from_<b.to:=hm.2 b (by simp);rw[JB,nW]at this;simp[hb]at this
 |a::l,[],hl,_,h=>by
  have:=h a.from_;have ha:a.from_<a.to:=hl.2 a (by simp);rw[JB,nW]at this;simp[ha]at this
 |a::l,b::m,hl,hm,h=>by
  have ha:a.from_<a.to:=hl.2 a (by simp);have hb:b.from_<b.to:=hm.2 b (by simp);have ina:hZ (a::l) a.from_=true:=by rw[nW];simp[ha]
  have Q1:hZ (b::m) b.from_=true:=by rw[nW];simp[hb]
  have e1:a.from_=b.from_:=by
   have h1:=aai hm (by rw[<- h];exact ina);have h2:=aai hl (by rw[h];exact Q1);omega
  have nl:∀(c:aO)(k:List aO),Can (c::k)->hZ (c::k) c.to=false:=by
   intro c k hk;cases hc:hZ (c::k) c.to with
   |false=>rfl
   |true=>
    rw[nW,Bool.or_eq_true]at hc;rcases hc with hc |hc
    ·simp at hc
    ·have:=JC hk hc;omega
  have e2:a.to=b.to:=by
   rcases Int.lt_trichotomy a.to b.to with hlt |he |hlt
   ·have h1:=nl a l hl;rw[h,nW]at h1;simp only[Bool.or_eq_false_iff,Bool.and_eq_false_iff,dN]at h1;omega
   ·exact he
   ·have h1:=nl b m hm;rw[<- h,nW]at h1;simp only[Bool.or_eq_false_iff,Bool.and_eq_false_iff,dN]at h1;omega
  have e:a=b:=by cases a;cases b;simp only at e1 e2;rw[e1,e2]
  subst e;rw[WL (adY hl) (adY hm) λy=>?_];have hy:=h y;rw[nW,nW]at hy;cases h1:hZ l y with
  |true=>
   have:=JC hl h1;have z:(decide (a.from_<=y)&&decide (y<a.to))=false:=(by rw[Bool.and_eq_false_iff,dN,dN];omega);rw[z,h1,Bool.false_or,Bool.false_or]at hy;rw[<- hy]
  |false=>
   cases h2:hZ m y with
   |false=>rfl
   |true=>
    have:=JC hm h2;have z:(decide (a.from_<=y)&&decide (y<a.to))=false:=(by rw[Bool.and_eq_false_iff,dN,dN];omega);rw[z,h1,h2]at hy;simp at hy
def Do(l:List aO):List aO:=(j4 sY l).foldl oX []
theorem aln{l:List aO}(h:l.Pairwise λx y=>sY y x=false):l.Pairwise λx y=>x.from_<=y.from_:=
 h.imp λ{x y} hxy=>by simp only[sY,dN]at hxy;omega
theorem aaj{l:List aO}(h:∀s∈l,DQ s):Can (Do l)/\∀y,hZ (Do l) y=hZ l y:=by
 have hp:=D8 sY l;obtain⟨h1,h2⟩:=P5 (j4 sY l) [] ah4 (λ s hs=>h s (hp.mem_iff.1 hs)) (aln (akQ NI l)) (by simp);exact⟨h1,λy=>by rw[Do,h2,JB,Bool.false_or,adX hp]⟩
theorem aji{l:List aO}(h:∀s∈l,DQ s):(kY sY l).foldl oX []=Do l:=by
 have hp:=KR NI l;obtain⟨h1,h2⟩:=P5 (kY sY l) [] ah4 (λ s hs=>h s (hp.mem_iff.1 hs)) (aln (MZ NI l)) (by simp);have⟨h3,h4⟩:=aaj h;exact WL h1 h3 λy=>by rw[h2,JB,Bool.false_or,adX hp,h4]
theorem adZ(l:List aO):(Do l).length<=l.length:=by
 have:∀(ys ab:List aO),(ys.foldl oX ab).length<=ab.length+ys.length:=by
  intro ys
  induction ys with
  |nil=>intro ab;simp
  |cons y ys ih=>
   intro ab;simp only[foldl_cons,bI];have:=ih (oX ab y);have:=WK ab y;omega
 have h:=this (j4 sY l) [];rw[eH]at h;simpa[Do]using h
abbrev ej(r:ax):Bool:=decide (0<=r.x0)&&(decide (r.x0<r.x1)&&(decide (r.x1<=1048576)&&(decide (0<=r.y0)&&(decide (r.y0<r.y1)&&decide (r.y1<=1048576)))))
theorem Pa(a b:Bool):(bif a then some b else some false)=some (a&&b):=by cases a<;>rfl
theorem iP(r:ax):nu r=some (ej r):=by simp only[nu,Pa]
def jQ(l:List ax)(x:Int):List aO:=(l.filter λr=>decide (r.x0<=x)&&decide (x<r.x1)).map λr=>⟨r.y0,r.y1⟩
def dx(l:List ax)(x:Int):List aO:=Do (jQ l x)
theorem Ib(l:List ax)(x:Int):(jQ l x).length<=l.length:=by simp only[jQ,length_map];exact length_filter_le _ _
theorem yR(l:List ax)(x:Int):(dx l x).length<=l.length:=
 Nat.le_trans (adZ _) (Ib l x)
theorem aoX{r:ax}(h:ej r=true):r.y0<r.y1:=by simp only[ej,aL,aV]at h;omega
theorem WM{l:List ax}(h:∀r∈l,ej r=true)(x:Int):∀s∈jQ l x,DQ s:=by
 intro s hs;simp only[jQ,mem_map,List.mem_filter]at hs;obtain⟨r,⟨hr,_⟩,rfl⟩:=hs;exact aoX (h r hr)
theorem P6{l:List ax}{x:Int}(hl:l.length<1099511627776){n:Nat}(hn:l.length<n):iter (sU l x) n ((0:Int),([]:List aO))=some (jQ l x):=by
 have:=fF (l:=l) (step:=sU l x) (λ i (s:List aO)=>((i:Int),s)) (λ r s=>bif decide (r.x0<=x)&&decide (x<r.x1)then s++[⟨r.y0,r.y1⟩]else s) (λ s=>s) (λ i s=>s.length<=i)
  (λ i hi s hs=>?_) (λ s hs=>by simp[sU]) n hn [] (aC _)
 ·rw[show ((0:Nat):Int)=0 from rfl]at this;rw[this];congr 1;have gen:∀(ys:List ax)(s:List aO),ys.foldl (λ s r=>bif decide (r.x0<=x)&&decide (x<r.x1)then s++[⟨r.y0,r.y1⟩]else s) s=s++jQ ys x:=by
   intro ys
   induction ys with
   |nil=>intro s;simp[jQ]
   |cons y ys ih=>
    intro s;simp only[foldl_cons,ih];cases h:(decide (y.x0<=x)&&decide (x<y.x1))with
    |true=>simp[jQ,h]
    |false=>simp[jQ,h]
  simpa using gen l []
 ·have hi':decide ((i:Int)<(l.length:Int))=true:=by simpa using hi
  have ap:bP s.length s.length (sub ([(aO.mk l[i].y0 l[i].y1)]:List aO) 0 1).length 1 16=true:=dm (n:=1);simp only[sU,hi',aj,bq hi,af,Pa];cases h:(decide (l[i].x0<=x)&&decide (x<l[i].x1))with
  |true=>
   simp only[aj,ap,dP,aD,af];refine⟨?_,by simp;omega⟩;rw[bK (by omega)];rfl
  |false=>
   simp only[ak,aD,aj,af];exact⟨by rw[bK (by omega)],by omega⟩
theorem P7(w1 r2:List aO)(hw:w1.length=r2.length)(hl:r2.length<1099511627776)(hn:r2.length<n):iter (sV w1 r2) n ((0:Int),([]:List aO))=some (r2.foldl oX []):=by
 have:=fF (l:=r2) (step:=sV w1 r2) (λ i (s:List aO)=>((i:Int),s)) (λ r s=>oX s r) (λ s=>s) (λ i s=>s.length<=i)
  (λ i hi s hs=>?_) (λ s hs=>by simp[sV,hw]) n hn [] (aC _)
 ·rw[show ((0:Nat):Int)=0 from rfl]at this;exact this
 ·refine⟨?_,by have:=WK s r2[i];omega⟩;have hi':decide ((i:Int)<(w1.length:Int))=true:=by simp;omega
  have ib:cC (i:Int) w1.length=true:=aT (by omega);have ap:bP s.length s.length (sub ([r2[i]]:List aO) 0 1).length 1 16=true:=dm (n:=1);simp only[sV,hi',aj,ib,aY hi,af];rcases List.eq_nil_or_concat s with rfl |⟨s0,q,Hp⟩
  ·have d0:decide (((([]:List aO).length:Nat):Int)>0)=false:=(by simp);simp only[d0,ak,af,ap,aj,dP,aD];rw[bK (by omega)];rfl
  ·rw[List.concat_eq_append]at Hp;subst Hp;have d0:decide (((((s0++[q]).length:Nat):Int))>0)=true:=(by simp<;>omega);have AM:(s0++[q]).length=s0.length+1:=(by simp);have wp:i64.wrap ((((s0++[q]).length:Nat):Int) -1)=(s0.length:Int):=(by rw[mI (by simp) (by omega),AM];rfl);have Q2:cC (s0.length:Int) (s0++[q]).length=true:=aT (by omega);have g:bp (s0++[q]) (((0:Nat):Int)+(s0.length:Int))=some q:=(by rw[DZ];simp);have z:(((0:Nat):Int)+(s0.length:Int)).toNat=s0.length:=(by simp);have st:(s0++[q]).set s0.length (aO.mk q.from_ (max q.to r2[i].to))=s0++[⟨q.from_,max q.to r2[i].to⟩]:=(by simp);have m:oX (s0++[q]) r2[i]=bif decide (r2[i].from_<=q.to)then s0++[⟨q.from_,max q.to r2[i].to⟩]else s0++[q]++[r2[i]]:=(by simp[oX]);simp only[d0,aj,wp,Q2,g,af,m,z,st];cases decide (r2[i].from_<=q.to)with
   |true=>
    have e:az (s0++[q]).length (s0++[(⟨q.from_,max q.to r2[i].to⟩:aO)]).length=true:=(by simp);simp only[aj,e,af,aD];rw[bK (by omega)]
   |false=>
    simp only[ak,ap,aj,dP,aD,af];rw[bK (by omega)];rfl
theorem abF{l:List ax}{x:Int}(hv:∀r∈l,ej r=true)(hl:l.length<1099511627776)(hn:l.length<n):Jt n l x=some (dx l x):=by
 have h1:=Ib l x;have h2:(kY sY (jQ l x)).length=(jQ l x).length:=xB NI _;unfold Jt;simp only[length_nil,aD,aj,P6 (x:=x) (l:=l) (by omega) (n:=n) (by omega),af];rw[JP (λ a b=>if a.from_<b.from_ then -1 else if b.from_<a.from_ then 1 else 0) (λ a b=>by show xE a b=_;unfold xE;rw[ku];rfl) (λ a b=>by
  by_cases h1:a.from_<b.from_
  ·simp[h1]
  ·by_cases h2:b.from_<a.from_<;>simp[h1,h2]) (by omega) (by omega)]
 simp only[af];rw[P7 _ _ h2.symm (by omega) (by omega)];simp only[af,cZ,aD,aj];rw[aji (WM hv x)];rfl
def gV(l:List ax):List Int:=F0 (l.flatMap λr=>[r.x0,r.x1])
def ja{α:Type}(f:Int->Int->α):List Int->List α
 |a::b::l=>f a b::ja f (b::l)
 |_=>[]
def bD(l:List ax):List bU:=ja (λ a b=>⟨a,b,dx l a⟩) (gV l)
theorem rG{α:Type}(f:Int->Int->α):∀(l:List Int),(ja f l).length=l.length -1/\∀i (h:i+1<l.length) (h':i<(ja f l).length),(ja f l)[i]=f l[i] l[i+1]
 |[]=>⟨rfl,λi h=>by simp at h⟩
 |[a]=>⟨rfl,λi h=>by simp at h⟩
 |a::b::l=>by
  have⟨h1,h2⟩:=rG f (b::l);refine⟨by simp only[ja,bI,h1];simp,λi h h'=>?_⟩;cases i with
  |zero=>rfl
  |succ i=>
   simp only[ja,List.getElem_cons_succ];exact h2 i (by simpa using h) _
theorem wJ(l:List ax):(l.flatMap λr=>[r.x0,r.x1]).length=2*l.length:=by
 induction l with
 |nil=>rfl
 |cons x l ih=>simp only[List.flatMap_cons,dJ,ih,bI,length_nil];omega
theorem qY(l:List Int):(gH l).length<=l.length:=by
 match l with
 |[]=>simp[gH]
 |[x]=>simp[gH]
 |x::y::l=>
  have:=qY (y::l);simp only[gH];cases x==y<;>simp at* <;>omega
theorem Ky(l:List ax):(gV l).length<=2*l.length:=by
 have h:=qY (j4 (λ a b=>decide (a<b)) (l.flatMap λr=>[r.x0,r.x1]));rw[eH,wJ]at h;exact h
theorem P8{l:List ax}(hl:l.length<10995116277)(hn:l.length<n):iter (sW l) n ((0:Int),([]:List Int))=some (l.flatMap λr=>[r.x0,r.x1]):=by
 have:=fF (l:=l) (step:=sW l) (λ i (s:List Int)=>((i:Int),s)) (λ r s=>s++[r.x0,r.x1]) (λ s=>s) (λ i s=>s.length<=2*i)
  (λ i hi s hs=>?_) (λ s hs=>by simp[sW]) n hn [] (aC _)
 ·rw[show ((0:Nat):Int)=0 from rfl]at this;rw[this];have gen:∀(ys:List ax)(s:List Int),ys.foldl (λ s r=>s++[r.x0,r.x1]) s=s++ys.flatMap λr=>[r.x0,r.x1]:=by
   intro ys
   induction ys with
   |nil=>intro s;simp
   |cons y ys ih=>intro s;simp[ih]
  congr 1;simpa using gen l []
 ·have hi':decide ((i:Int)<(l.length:Int))=true:=by simpa using hi
  have ap:bP s.length s.length (sub ([l[i].x0,l[i].x1]:List Int) 0 2).length 2 8=true:=dm (n:=2);simp only[sW,hi',aj,aT hi,aY hi,af,ap,dP,aD];refine⟨?_,by simp;omega⟩;rw[bK (by omega)];rfl
theorem xR{ls:List (List ax)}(hv:∀r∈ls.flatten,ej r=true)(hl:ls.flatten.length<10995116277)(hls:ls.length<1099511627776)(hn:2*ls.flatten.length<n)(hn2:ls.length<n):og n ls=some (bD ls.flatten):=by
 unfold og;rw[NH (by omega) hls hn2];generalize ls.flatten=l at*;have he:=Ky l;simp only[af,length_nil,aD,aj,P8 (l:=l) (n:=n) (by omega) (by omega)];rw[oU (by rw[wJ];omega) (by rw[wJ];omega)];simp only[af,eH,aD,aj];rw[uf (by rw[eH,wJ];omega) (by rw[eH,wJ];omega)];simp only[af];have hE:gH (j4 oc (l.flatMap λr=>[r.x0,r.x1]))=gV l:=rfl;rw[hE];obtain⟨p1,p2⟩:=rG (λ a b=>(⟨a,b,dx l a⟩:bU)) (gV l);have key:iter (sZ n l ((),gV l)) n ((1:Int),([]:List bU))=some (bD l):=by
  have:=mh (step:=sZ n l ((),gV l)) (λ i=>(((i+1:Nat):Int),(bD l).take i)) (bD l).length (bD l) (λ i hi=>?_) ?_ n (by unfold bD;omega)
  ·simpa using this
  ·have hi2:i+1<(gV l).length:=(by unfold bD at hi;omega);have d:decide (((i+1:Nat):Int)<(((gV l).length:Nat):Int))=true:=(by simp;omega);have wp:i64.wrap (((i+1:Nat):Int) -1)=(i:Int):=(by rw[mI (by omega) (by omega)];rfl);have ap:bP ((bD l).take i).length ((bD l).take i).length (sub ([(bU.mk ((gV l)[i]'(by omega)) (gV l)[i+1] (dx l ((gV l)[i]'(by omega))))]:List bU) 0 1).length 1 40=true:=by
    refine dm (n:=1) ?_ ?_
    ·rw[length_take];unfold bD;omega
    ·rw[length_take];unfold bD;simp only[maxLen];omega
   have tk:(bD l).take (i+1)=(bD l).take i++[⟨(gV l)[i]'(by omega),(gV l)[i+1],dx l ((gV l)[i]'(by omega))⟩]:=by
    rw[gF hi];congr 2;exact p2 i hi2 hi
   simp only[sZ,d,aj,wp,aT (show i<(gV l).length by omega),aY (show i<(gV l).length by omega),af,aT hi2,aY hi2,cZ,aD,abF (l:=l) (n:=n) hv (by omega) (by omega),ap,dP];rw[bK (by omega),tk];rfl
  ·have d:decide ((((bD l).length+1:Nat):Int)<(((gV l).length:Nat):Int))=false:=(by unfold bD;simp;omega);simp only[sZ,d,ak,List.take_length,aD,aj]
 rw[key];simp only[af,cZ,aD,aj]
def ED(x0 x1:Int)(c:List aO):List ax:=c.map λq=>⟨x0,q.from_,x1,q.to⟩
def De(x0 x1:Int)(c:List aO):List bU->List ax
 |[]=>ED x0 x1 c
 |s::l=>if s.column=c then De x0 s.x1 c l else ED x0 x1 c++De s.x0 s.x1 s.column l
def nK:List bU->List ax
 |[]=>[]
 |s::l=>De s.x0 s.x1 s.column l
theorem aak(x0:Int)(c:List aO):∀(l:List bU)(x1:Int)(k:Nat)(hk:k<=l.length),(∀ j (hj:j<k),(l[j]'(by omega)).column=c)->(∀ h:k<l.length,l[k].column≠c)->
 De x0 x1 c l=ED x0 (if h:0<k then(l[k -1]'(by omega)).x1 else x1) c++nK (l.drop k)
 |l,x1,0,_,_,h2=>by
  cases l with
  |nil=>simp[De,nK]
  |cons s l=>
   have:=h2 (by simp);simp only[List.getElem_cons_zero]at this;simp[De,nK,this]
 |[],x1,k+1,hk,_,_=>by simp at hk
 |s::l,x1,k+1,hk,h1,h2=>by
  have e0:=h1 0 (by omega);simp only[List.getElem_cons_zero]at e0;simp only[De,e0,if_true];rw[aak x0 c l s.x1 k (by simpa using hk) (λ j hj=>by have:=h1 (j+1) (by omega);simpa using this) (λ h=>by have:=h2 (by simpa using h);simpa using this)];simp only[List.drop_succ_cons];congr 2;by_cases hk0:0<k
  ·simp only[hk0,dite_true,Nat.zero_lt_succ,Nat.add_sub_cancel];obtain⟨m,rfl⟩:∃m,k=m+1:=⟨k -1,by omega⟩;simp
  ·have:k=0:=(by omega);subst this;simp
theorem Sj{l:List bU}{i k:Nat}(hi:i<l.length)(hk1:0<k)(hk:k<=l.length)(hl:l.length<10995116277)(x3:bU)(ab:List ax)(ho:ab.length<1099511627776)(hc:x3.column.length<1099511627776)(hn:x3.column.length<n):
 iter (wo l (i:Int) (k:Int) x3) n ((0:Int),ab)=some (ab++ED l[i].x0 (l[k -1]'(by omega)).x1 x3.column):=by
 have:=fF (l:=x3.column) (step:=wo l (i:Int) (k:Int) x3) (λ j (s:List ax)=>((j:Int),s)) (λ q s=>s++[⟨l[i].x0,q.from_,(l[k -1]'(by omega)).x1,q.to⟩]) (λ s=>s) (λ j s=>s.length<=ab.length+j)
  (λ j hj s hs=>?_) (λ s hs=>by simp[wo]) n hn ab (aC _)
 ·rw[show ((0:Nat):Int)=0 from rfl]at this;rw[this];have gen:∀(ys:List aO)(s:List ax),ys.foldl (λ s q=>s++[⟨l[i].x0,q.from_,(l[k -1]'(by omega)).x1,q.to⟩]) s=s++ED l[i].x0 (l[k -1]'(by omega)).x1 ys:=by
   intro ys
   induction ys with
   |nil=>intro s;simp[ED]
   |cons y ys ih=>intro s;simp only[foldl_cons,ih];simp[ED]
  rw[gen]
 ·have hj':decide ((j:Int)<(x3.column.length:Int))=true:=by simpa using hj
  have wp:i64.wrap ((k:Int) -1)=((k -1:Nat):Int):=mI hk1 (by omega);have ap:bP s.length s.length (sub ([(ax.mk l[i].x0 (x3.column[j]).from_ (l[k -1]'(by omega)).x1 (x3.column[j]).to)]:List ax) 0 1).length 1 32=true:=dm (n:=1);simp only[wo,hj',aj,bq hj,bq hi,wp,bq (show k -1<l.length by omega),af,ap,dP,aD];refine⟨?_,by simp;omega⟩;rw[bK (by omega)];rfl
theorem RD{l:List bU}{b:Nat}(hb:b<=100000)(hl:l.length<=100000)(hc:∀s∈l,s.column.length<=b)(hn:b<n)(hn2:l.length<n):Hz n l=some (nK l):=by
 unfold Hz;simp only[length_nil,aD,aj];have main:∀(m i:Nat)(ab:List ax)(k:Nat),i+m=l.length->m<k->ab.length<=i*b->iter (wu n l) k ((i:Int),ab)=some (ab++nK (l.drop i)):=by
  intro m
  induction m using Nat.strongRecOn with
  |ind m ih=>
   intro i ab k him hk ho;obtain⟨k,rfl⟩:∃j,k=j+1:=⟨k -1,by omega⟩;by_cases hm:m=0
   ·subst hm;have:i=l.length:=(by omega);subst this;refine fH ?_;simp[wu,nK]
   ·have hi:i<l.length:=(by omega);have di:decide ((i:Int)<(l.length:Int))=true:=(by simpa using hi);obtain⟨q,hq1,hq2,hq3,hq4⟩:∃q,i<q/\q<=l.length/\(∀ j,i<j->j<q->∀h:j<l.length,l[j].column=l[i].column)/\(∀ h:q<l.length,l[q].column≠l[i].column):=by
     rcases Kt (λ j=>if h:j<l.length then decide (l[j].column≠l[i].column)else false) (i+1) l.length with ⟨q,h1,h2,h3,h4⟩ |h
     ·simp only[h2,dite_true,aV]at h3;refine⟨q,by omega,by omega,λj hj1 hj2 hj=>?_,λ_=>h3⟩;have:=h4 j (by omega) hj2;simp only[hj,dite_true,dN,ne_eq,Decidable.not_not]at this;exact this
     ·refine⟨l.length,hi,aC _,λj hj1 hj2 hj=>?_,λh=>by omega⟩;have:=h j (by omega) hj;simp only[hj,dite_true,dN,ne_eq,Decidable.not_not]at this;exact this
    have cl:∀j (hj:j<l.length),l[j].column.length<=b:=λj hj=>hc _ (getElem_mem hj);have r2:iter (rU n l (i:Int)) n (i64.wrap ((i:Int)+1))=some (q:Int):=by
     rw[bK (by omega)];have:=mh (step:=rU n l (i:Int)) (λ j=>((i+1+j:Nat):Int)) (q -(i+1)) (q:Int) (λ j hj=>?_) ?_ n (by omega)
     ·simpa using this
     ·have hjl:i+1+j<l.length:=(by omega);have dj:decide (((i+1+j:Nat):Int)<(l.length:Int))=true:=(by simp;omega);have hcc:=cl (i+1+j) hjl;simp only[rU,dj,aj,bq hjl,bq hi,af];rw[CG (by omega) (by omega),hq3 (i+1+j) (by omega) (by omega) hjl];simp only[decide_true,af,aj];rw[bK (by omega)];rfl
     ·rw[show i+1+(q -(i+1))=q by omega];by_cases yr:q<l.length
      ·have dj:decide ((q:Int)<(l.length:Int))=true:=(by simpa using yr);have hcc:=cl q yr;simp only[rU,dj,aj,bq yr,bq hi,af];rw[CG (by omega) (by omega)];simp[hq4 yr]
      ·have dj:decide ((q:Int)<(l.length:Int))=false:=(by simp;omega);simp only[rU,dj,ak,af]
    have ob:i*b<=100000*100000:=Nat.mul_le_mul (by omega) hb;have hci:=cl i hi;have r3:=Sj (n:=n) hi (show 0<q by omega) hq2 (by omega) l[i] ab (by omega) (by omega) (by omega);have step:wu n l ((i:Int),ab)=some (.inl ((q:Int),ab++ED l[i].x0 (l[q -1]'(by omega)).x1 l[i].column)):=(by simp only[wu,di,aj,r2,bq hi,af,aD,r3]);rw[iG step,ih (l.length -q) (by omega) q _ k (by omega) (by omega) (by
     rw[dJ,ED,length_map];have:(i+1)*b<=q*b:=Nat.mul_le_mul_right _ (by omega);rw[Nat.add_mul]at this;omega)]
    rw[aK];congr 2
    conv=>rhs;rw[List.drop_eq_getElem_cons hi]
    simp only[nK];rw[aak l[i].x0 l[i].column (l.drop (i+1)) l[i].x1 (q -(i+1)) (by rw[length_drop];omega) (λ j hj=>by
     rw[getElem_drop];exact hq3 _ (by omega) (by omega) (by omega)) (λ h=>by
     rw[length_drop]at h;rw[getElem_drop];have:=hq4 (by omega);have hqq:i+1+(q -(i+1))=q:=(by omega);simp only[hqq];exact this)]
    rw[List.drop_drop,show i+1+(q -(i+1))=q by omega];congr 2;by_cases h0:0<q -(i+1)
    ·simp only[h0,dite_true,getElem_drop];congr 2;omega
    ·simp only[h0,dite_false];have:q -1=i:=(by omega);congr 2
 have:=main l.length 0 [] n (by omega) (by omega) (by simp);simp only[Int.natCast_zero,bQ,List.drop_zero]at this;rw[this];simp
def rN(l:List ax):List ax×Int:=
 if l.all ej then(if l.length>400 then([],6)else if (nK (bD l)).length>200 then([],6)else(nK (bD l),0))else([],1)
def cR(l:List ax):Bool:=decide ((rN l).2=0)&&decide ((rN l).1=l)
theorem ad1{l:List ax}{s:bU}(h:s∈bD l):s.column.length<=l.length:=by
 obtain⟨i,hi,rfl⟩:=List.getElem_of_mem h;obtain⟨p1,p2⟩:=rG (λ a b=>(⟨a,b,dx l a⟩:bU)) (gV l);have:(bD l)[i]=⟨(gV l)[i]'(by unfold bD at hi;omega),(gV l)[i+1]'(by unfold bD at hi;omega),dx l ((gV l)[i]'(by unfold bD at hi;omega))⟩:=p2 i (by unfold bD at hi;omega) hi;rw[this];exact yR l _
theorem ug(l:List ax):(bD l).length<=2*l.length:=by
 obtain⟨p1,_⟩:=rG (λ a b=>(⟨a,b,dx l a⟩:bU)) (gV l);have:=Ky l;unfold bD;omega
theorem alo{l:List ax}(hl:l.length<1099511627776)(hl2:l.length<n)(hn:1000<=n):N4 n l=some (rN l):=by
 unfold N4;have h1:=pq (l:=l) (step:=Ns l) (λ i=>(i:Int)) (λ r=>!ej r) () (λ _=>(([]:List ax),(1:Int))) (λ i hi=>?_) ?_ n (by omega)
 ·rw[show ((0:Nat):Int)=0 from rfl]at h1;rw[h1];have h2:=pu (λ r=>!ej r) l;cases hf:nP (λ r=>!ej r) l with
  |some i=>
   rw[hf]at h2;have:l.all ej=false:=by
    rw[<- Bool.not_eq_true,all_eq_true];intro hall;have h3:=h2.symm;simp only[Option.isSome_some,any_eq_true]at h3;obtain⟨x,hx,hx2⟩:=h3;rw[hall x hx]at hx2;cases hx2
   simp[rN,this]
  |none=>
   rw[hf]at h2;have:l.all ej=true:=by
    rw[all_eq_true];intro x hx;cases h:ej x with
    |true=>rfl
    |false=>
     have:l.any (λ r=>!ej r)=true:=any_eq_true.2 ⟨x,hx,by rw[h];rfl⟩;rw[this]at h2;cases h2
   have hv:∀r∈l,ej r=true:=all_eq_true.1 this;by_cases xj:l.length>400
   ·have d4:decide ((l.length:Int)>400)=true:=(by simp;omega);simp only[eD,d4,aj,rN,this,if_true,aX xj]
   have d4:decide ((l.length:Int)>400)=false:=(by simp;omega);have ls:=ug l;simp only[eD,d4,ak];have fl:[l].flatten=l:=(by simp);rw[show (sub ([l]:List (List ax)) 0 1)=[l]from rfl,xR (ls:=[l]) (by rw[fl];exact hv) (by rw[fl];omega) (by simp) (by rw[fl];omega) (by simp;omega),fl];simp only[List.length_singleton,aD,aj,af,cZ];rw[RD (b:=400) (by omega) (by omega) (λ s hs=>Nat.le_trans (ad1 hs) (by omega)) (by omega) (by omega)];simp only[af,cZ,aD,aj,yM,rN,this,if_true,aQ xj];by_cases q7:(nK (bD l)).length>200
   ·have:decide (((nK (bD l)).length:Int)>200)=true:=(by simp;omega);simp only[this,aj,af,q7,if_true]
   ·have:decide (((nK (bD l)).length:Int)>200)=false:=(by simp;omega);simp only[this,ak,af,q7,if_false]
 ·have hi':decide ((i:Int)<(l.length:Int))=true:=by simpa using hi
  simp only[Ns,hi',aj,bq hi,af,iP];cases ej l[i]with
  |false=>rfl
  |true=>simp only[Bool.not_true,ak];rw[bK (by omega)]
 ·simp[Ns]
theorem lN{l:List ax}(hl:l.length<1099511627776)(hl2:l.length<n)(hn:1000<=n):nQ n l=some (cR l):=by
 unfold nQ cR;rw[alo hl hl2 hn];simp only[af];by_cases h:(rN l).2=0
 ·have e:((rN l).2==0)=true:=by simp[h]
  have lo:(rN l).1.length<=200:=by
   unfold rN;split
   ·split
    ·simp
    ·split
     ·simp
     ·simp;omega
   ·simp
  by_cases hlen:(rN l).1.length<n
  ·simp only[e,aj,h,decide_true,Bool.true_and];rw[CF (by omega) hlen];rfl
  ·have:(rN l).1.length≠l.length:=(by omega);have hne:(rN l).1≠l:=λe=>this (by rw[e]);simp only[e,aj,h,decide_true,Bool.true_and];unfold oh;have hb:(((rN l).1.length:Int) !=(l.length:Int))=true:=(by simp;omega);rw[hb];simp[hne]
 ·have e:((rN l).2==0)=false:=by simp[h]
  simp[e,h]
theorem NK{α:Type}(c:Bool)(a b:α):(bif c then some a else some b)=some (bif c then a else b):=by cases c<;>rfl
theorem aal(i n:Nat):Int.tmod (i:Int) (n:Int)=((i%n:Nat):Int):=by rw[Int.tmod_eq_emod_of_nonneg (by omega)];omega
theorem bO{i n:Nat}(h:i<n):decide ((i:Int)<(n:Int))=true:=by simpa using h
theorem bX(n:Nat):decide ((n:Int)<(n:Int))=false:=by simp
theorem ah5{k b:Nat}(h:k*b<=140737488355328)(h2:k<=maxLen):zx (k:Int) b=true:=by
 have e:((k:Int)).toNat=k:=by omega
 simp only[zx,aL,aV,e];exact⟨⟨by omega,h⟩,h2⟩
def pD(p:List dQ)(i:Nat):dQ:=p.getD i ⟨0,0⟩
def jb(p:List dQ)(i:Nat):jv:=⟨(pD p i).x,(pD p i).y,(pD p ((i+1)%p.length)).x,(pD p ((i+1)%p.length)).y⟩
def gu(p:List dQ):List jv:=(List.range p.length).map (jb p)
theorem Ut{p:List dQ}{i:Nat}(h:i<p.length):pD p i=p[i]:=by simp[pD,h]
theorem dY(p:List dQ):(gu p).length=p.length:=by simp[gu]
theorem yS{p:List dQ}{i:Nat}(h:i<(gu p).length):(gu p)[i]=jb p i:=by simp[gu]
theorem alp{α:Type}(A B:List α)(z x:α):(A++z::B).set A.length x=A++x::B:=by rw[List.set_append_right _ _ (aC _),Nat.sub_self];rfl
theorem Am{p:List dQ}(hl:p.length<=100000)(hn:p.length<n):oQ n p=some (gu p):=by
 unfold oQ;have mk:zx (p.length:Int) 32=true:=ah5 (by omega) (by show p.length<=2 ^ 63 -1;omega);have main:=mh (step:=oF p) (λ i=>((i:Int),(List.range i).map (jb p)++List.replicate (p.length -i) (jv.mk 0 0 0 0))) p.length (gu p) (λ i hi=>?_) ?_ n hn
 ·have z:((p.length:Int)).toNat=p.length:=by omega
  simp only[List.range_zero,List.map_nil,bQ,Nat.sub_zero]at main;have d1:decide ((p.length:Int)<=(p.length:Int))=true:=by simp
  have d2:decide ((0:Int)<=(p.length:Int))=true:=by simp
  rw[mk,d1,d2,z];simp only[Bool.and_self,aj];rw[show ((0:Nat):Int)=0 from rfl]at main;rw[main];simp only[af];have e:sub (gu p) 0 p.length=gu p:=by rw[<- dY p];exact cZ _
  rw[e,dY];simp
 ·have nz:((p.length:Int) !=0)=true:=by simp;intro h;rw[h]at hi;simp at hi
  have md:(i+1)%p.length<p.length:=Nat.mod_lt _ (by omega);have w:i64.wrap ((i:Int)+1)=((i+1:Nat):Int):=bK (by omega);have z:((p.length:Int)).toNat=p.length:=by omega
  have rp:List.replicate (p.length -i) (jv.mk 0 0 0 0)=jv.mk 0 0 0 0::List.replicate (p.length -(i+1)) (jv.mk 0 0 0 0):=by rw[show p.length -i=(p.length -(i+1))+1 by omega,List.replicate_succ]
  have la:((List.range i).map (jb p)).length=i:=by simp
  have g:bp ((List.range i).map (jb p)++List.replicate (p.length -i) (jv.mk 0 0 0 0)) (((0:Nat):Int)+(i:Int))=some (jv.mk 0 0 0 0):=by rw[DZ,jy (by omega),la,rp,Nat.sub_self];rfl
  have z2:(((0:Nat):Int)+(i:Int)).toNat=i:=by omega
  have st:((List.range i).map (jb p)++List.replicate (p.length -i) (jv.mk 0 0 0 0)).set i (jb p i)=(List.range (i+1)).map (jb p)++List.replicate (p.length -(i+1)) (jv.mk 0 0 0 0):=by
   rw[rp];have:=alp ((List.range i).map (jb p)) (List.replicate (p.length -(i+1)) (jv.mk 0 0 0 0)) (jv.mk 0 0 0 0) (jb p i);rw[la]at this;rw[this,List.range_succ,List.map_append,aK];rfl
  simp only[oF,bO hi,aj,bq hi,af,nz,w,aal,bq md,z,aT hi,g,z2];rw[<- Ut hi,<- Ut md];rw[show jv.mk (pD p i).x (pD p i).y (pD p ((i+1)%p.length)).x (pD p ((i+1)%p.length)).y=jb p i from rfl,st]
 ·simp only[oF,bX,ak,Nat.sub_self,List.replicate_zero,append_nil];rfl
def Uu(a:dQ):Bool:=decide (0<=a.x)&&(decide (a.x<=1048576)&&(decide (0<=a.y)&&decide (a.y<=1048576)))
def uc(s:jv):Bool:=s.lz==s.mi
def O2(s t:jv):Bool:=decide (max (min s.lz s.mi) (min t.lz t.mi)<=min (max s.lz s.mi) (max t.lz t.mi))&&decide (max (min s.py s.t8) (min t.py t.t8)<=min (max s.py s.t8) (max t.py t.t8))
def Uv(a b:dQ):Bool:=decide (a.x<b.x) || (a.x==b.x&&decide (a.y<b.y))
theorem NN(a:dQ):tF a=some (Uu a):=by simp only[tF,Pa,Uu]
theorem CJ(s t:jv):lF s t=some (O2 s t):=by simp only[lF,Pa,O2]
theorem mU(s:jv):gI s=some (uc s):=rfl
theorem WN(a b:Int)(hn:3<=n):rz n [a,b]=some (if a=0 then b else a):=by
 obtain⟨m,rfl⟩:∃m,n=m+3:=⟨n -3,by omega⟩;have w1:i64.wrap ((0:Int)+1)=1:=by decide
 have w2:i64.wrap ((1:Int)+1)=2:=by decide
 by_cases ha:a=0
 ·by_cases hb:b=0
  ·subst ha;subst hb;simp only[rz,Cu,vB,w1,w2];rfl
  ·have hb':(b !=0)=true:=(by simpa using hb);subst ha;simp only[rz,Cu,vB,w1];simp[bp,hb',dD]
 ·have ha':(a !=0)=true:=by simpa using ha
  simp only[rz,Cu,vB];simp[bp,ha',dD,ha]
theorem KX(a b:dQ)(hn:3<=n):∃r,qP n a b=some r/\decide (r>=0)=!Uv a b:=by
 unfold qP;rw[ku,ku];simp only[af];rw[show ∀u v:Int,sub [u,v] 0 2=[u,v]from λ_ _=>rfl,WN _ _ hn];refine⟨_,rfl,?_⟩;unfold Uv;by_cases h1:a.x<b.x
 ·simp[h1]
 ·by_cases h2:b.x<a.x
  ·have h3:¬a.x=b.x:=(by omega);simp[h1,h2,h3]
  ·have h3:a.x=b.x:=(by omega);by_cases h4:a.y<b.y
   ·simp[h3,h4]
   ·by_cases h5:b.y<a.y<;>simp[h3,h4,h5]
def ID(p:List dQ)(i:Nat):Bool:=
 (!Uu (pD p i) || ((((jb p i).lz==(jb p i).mi)==((jb p i).py==(jb p i).t8)) || (uc (jb p i)==uc (jb p ((i+1)%p.length))))) || (decide (0<i)&&!Uv (pD p 0) (pD p i))
def Sk(p:List dQ)(i k:Nat):Bool:=decide (i+p.length -k>1)&&O2 (jb p i) (jb p k)
def P9(p:List dQ):Bool:=
 decide (4<=p.length)&&(decide (p.length<=60)&&(!((List.range p.length).any (ID p))&&(!((List.range p.length).any λi=>(List.range p.length).any λk=>decide (i+2<=k)&&Sk p i k)&&!uc (jb p 0))))
def Xs(l:List ax)(x y:Int):Bool:=l.any λr=>(decide (r.x0<=x)&&decide (x<r.x1))&&(decide (r.y0<=y)&&decide (y<r.y1))
theorem ad2(l:List ax)(x y:Int):hZ (jQ l x) y=Xs l x y:=by
 induction l with
 |nil=>rfl
 |cons r l ih=>
  unfold jQ Xs at*;rw[List.filter_cons,List.any_cons,<- ih];cases h:(decide (r.x0<=x)&&decide (x<r.x1))with
  |true=>simp only[if_true,aF,Bool.true_and];rw[nW]
  |false=>simp
theorem NP{l:List ax}(h:∀r∈l,ej r=true)(x:Int):Can (dx l x)/\∀y,hZ (dx l x) y=Xs l x y:=by
 have⟨h1,h2⟩:=aaj (WM h x);exact⟨h1,λy=>by rw[dx,h2,ad2]⟩
def WO:List bU->Prop
 |[]=>True
 |[s]=>s.x0<s.x1
 |s::t::l=>s.x0<s.x1/\s.x1=t.x0/\WO (t::l)
def Ic:List bU->Int->List aO
 |[],_=>[]
 |s::l,x=>bif decide (s.x0<=x)&&decide (x<s.x1)then s.column else Ic l x
theorem yT(s:bU)(l:List bU)(x:Int):Ic (s::l) x=bif decide (s.x0<=x)&&decide (x<s.x1)then s.column else Ic l x:=rfl
def Runs:List bU->Prop
 |[]=>True
 |[s]=>s.x0<s.x1/\s.column≠[]
 |s::t::l=>(s.x0<s.x1/\s.column≠[])/\s.x1<=t.x0/\(s.x1=t.x0->s.column≠t.column)/\Runs (t::l)
theorem am4{s:bU}{l:List bU}{x:Int}(h1:s.x0<=x)(h2:x<s.x1):Ic (s::l) x=s.column:=by rw[yT,show(decide (s.x0<=x)&&decide (x<s.x1))=true by simp[h1,h2]];rfl
theorem pR{α:Type}(f:Int->Int->α)(a b:Int)(l:List Int):ja f (a::b::l)=f a b::ja f (b::l):=rfl
theorem NQ(g:Int->List aO):∀(es:List Int),es.Pairwise (· < ·)->WO (ja (λ a b=>(⟨a,b,g a⟩:bU)) es)
 |[],_=>trivial
 |[_],_=>trivial
 |[a,b],h=>by
  have h1:=(pairwise_cons.1 h).1 b (by simp);exact h1
 |a::b::c::l,h=>by
  have h1:=(pairwise_cons.1 h).1 b (by simp);exact⟨h1,rfl,NQ g (b::c::l) (pairwise_cons.1 h).2⟩
theorem Ie(g:Int->List aO)(x:Int):∀(es:List Int),(∀ e∈es,x<e)->Ic (ja (λ a b=>(⟨a,b,g a⟩:bU)) es) x=[]
 |[],_=>rfl
 |[_],_=>rfl
 |a::b::l,h=>by
  have ha:=h a (by simp);rw[pR,yT,show(decide (a<=x)&&decide (x<b))=false by rw[Bool.and_eq_false_iff,dN];left;omega,ak];exact Ie g x (b::l) λe he=>h e (eG _ he)
theorem Ig(g:Int->List aO)(x:Int):∀(l:List Int)(a:Int),(a::l).Pairwise (· < ·)->a<=x->
 (∀ e∈a::l,e<=x->(∀ e'∈a::l,e'<=e\/x<e')->g e=g x)->((∀ e∈a::l,e<=x)->g x=[])->Ic (ja (λ a b=>(⟨a,b,g a⟩:bU)) (a::l)) x=g x
 |[],a,_,hx,_,h2=>(h2 (λ e he=>by have:e=a:=by simpa using he
                                  subst this;exact hx)).symm
 |b::l,a,hp,hx,h1,h2=>by
  have hab:=(pairwise_cons.1 hp).1 b (by simp);rw[pR,yT];by_cases hb:x<b
  ·rw[show (decide (a<=x)&&decide (x<b))=true by simp[hx,hb],aj];refine h1 a (by simp) hx λe he=>?_;rcases aN.1 he with rfl |he
   ·exact .inl (Int.le_refl _)
   ·right;rcases aN.1 he with rfl |he
    ·exact hb
    ·have:=(pairwise_cons.1 (pairwise_cons.1 hp).2).1 e he;omega
  ·rw[show (decide (a<=x)&&decide (x<b))=false by simp[hb],ak];refine Ig g x l b (pairwise_cons.1 hp).2 (by omega) (λ e he hex hc=>h1 e (eG _ he) hex λe' he'=>?_) λhall=>h2 λe he=>?_
   ·rcases aN.1 he' with rfl |he'
    ·left;have:=(pairwise_cons.1 hp).1 e he;omega
    ·exact hc e' he'
   ·rcases aN.1 he with rfl |he
    ·exact hx
    ·exact hall e he
theorem ad3(g:Int->List aO)(es:List Int)(hp:es.Pairwise (· < ·))(x:Int)
 (h1:∀e∈es,e<=x->(∀ e'∈es,e'<=e\/x<e')->g e=g x) (h2:(∀ e∈es,e<=x)->g x=[]) (h3:(∀ e∈es,x<e)->g x=[]):Ic (ja (λ a b=>(⟨a,b,g a⟩:bU)) es) x=g x:=by
 cases es with
 |nil=>exact(h3 (by simp)).symm
 |cons a l=>
  by_cases hx:a<=x
  ·exact Ig g x l a hp hx h1 h2
  ·have hall:∀e∈a::l,x<e:=by
    intro e he;rcases aN.1 he with rfl |he
    ·omega
    ·have:=(pairwise_cons.1 hp).1 e he;omega
   rw[Ie g x _ hall,h3 hall]
theorem WQ{l:List ax}{z:Int}:z∈gV l↔∃r∈l,z=r.x0\/z=r.x1:=by
 rw[gV,akN,List.mem_flatMap];simp
theorem Kz(l:List ax):(gV l).Pairwise (· < ·):=adA _
theorem YK{l:List ax}{es:List Int}(hes:∀r∈l,r.x0∈es/\r.x1∈es){e x:Int}(hex:e<=x)(hc:∀e'∈es,e'<=e\/x<e'):jQ l e=jQ l x:=by
 unfold jQ;congr 1;refine List.filter_congr λr hr=>?_;have⟨h0,h1⟩:=hes r hr;have:=hc _ h0;have:=hc _ h1;rw[jX,aL,aL,aV,aV,aV,aV];omega
theorem NR{l:List ax}{x:Int}(h:∀r∈l,x<r.x0\/r.x1<=x):jQ l x=[]:=by
 unfold jQ;rw[List.map_eq_nil_iff,List.filter_eq_nil_iff];intro r hr;have:=h r hr;rw[aL,aV,aV];omega
theorem Ih(l:List ax):WO (bD l):=NQ _ _ (Kz l)
theorem KA(l:List ax)(x:Int):Ic (bD l) x=dx l x:=by
 have hes:∀r∈l,r.x0∈gV l/\r.x1∈gV l:=λr hr=>⟨WQ.2 ⟨r,hr,.inl rfl⟩,WQ.2 ⟨r,hr,.inr rfl⟩⟩;refine ad3 (dx l) (gV l) (Kz l) x (λ e _ hex hc=>?_) (λ hall=>?_) (λ hall=>?_)
 ·unfold dx;rw[YK hes hex hc]
 ·unfold dx;rw[NR λr hr=> .inr (hall _ (hes r hr).2)];rfl
 ·unfold dx;rw[NR λr hr=> .inl (hall _ (hes r hr).1)];rfl
theorem ajj{a:List ax}(h:cR a=true):rN a=(a,0):=by
 unfold cR at h;rw[aL,aV,aV]at h;obtain⟨h1,h2⟩:=h;exact Prod.ext h2 h1
theorem uh{a:List ax}(h:cR a=true):(∀ r∈a,ej r=true)/\a.length<=200/\nK (bD a)=a:=by
 have h:=ajj h;unfold rN at h;split at h
 ·rename_i hall;split at h
  ·simp at h
  ·split at h
   ·simp at h
   ·rename_i q7;injection h with h _;refine⟨all_eq_true.1 hall,?_,h⟩;rw[<- h];omega
 ·simp at h
def ext(ab:List aO)(p:aO):List aO:=
 match ab.getLast? with
 |some q=>bif q.to==p.from_ then ab.dropLast++[⟨q.from_,p.to⟩]else ab++[p]
 |none=>[p]
def kB(a b:List aO):List Int:=F0 ((a++b).flatMap λs=>[s.from_,s.to])
def uj(keep:Bool->Bool->Bool)(a b:List aO):List aO:=
 ((ja aO.mk (kB a b)).filter λp=>keep (hZ a p.from_) (hZ b p.from_)).foldl ext []
theorem agl(o:List aO)(q p:aO):ext (o++[q]) p=bif q.to==p.from_ then o++[⟨q.from_,p.to⟩]else o++[q]++[p]:=by simp[ext]
def qG(keep:Bool->Bool->Bool)(a b:List ax):List bU:=
 ja (λ x x'=>(⟨x,x',uj keep (dx a x) (dx b x)⟩:bU)) (gV (a++b))
def oV(keep:Bool->Bool->Bool)(a b:List ax):List ax×Int:=
 if cR a&&cR b then(if (nK (qG keep a b)).length>200 then([],6)else(nK (qG keep a b),0))else([],1)
def WR{α:Type}(a0:List α)(a1:Int)(a2:(α×Int×Unit)->Option Int):(Int×Int)->Option ((Int×Int)⊕Int)
 |(v1,v2)=>(bif (decide (v1<(v2:Int)))then(ck (decide (0<=1)&&decide (1<=IntKind.u64.bits)) ((bp a0 (i64.wrap ((IntKind.u64.wrap (i64.wrap (v1+v2)))/2 ^ (1:Int).toNat))).bind λx1=>(a2 (x1,a1,())).bind λr1=>(bif (decide (r1<(0:Int)))then some (.inl ((i64.wrap ((i64.wrap ((IntKind.u64.wrap (i64.wrap (v1+v2)))/2 ^ (1:Int).toNat))+1)),v2))else some (.inl (v1,(i64.wrap ((IntKind.u64.wrap (i64.wrap (v1+v2)))/2 ^ (1:Int).toNat)))))))else some (.inr v1))
theorem ad4{α:Type}{l:List α}{key:Int}{φ:(α×Int×Unit)->Option Int}(p:α->Bool)(f:α->Int)(hφ:∀x,φ (x,key,())=some (f x))(hf:∀x,decide (f x<0)=p x)
 (hm:∀i j (hj:j<l.length) (hij:i<j),p l[j]=true->p (l[i]'(by omega))=true) (hl:l.length<1099511627776):
 ∀(m i j n:Nat),j -i<=m->i<=j->j<=l.length->(∀ k (hk:k<i) (hkl:k<l.length),p l[k]=true)->(∀ k (hk:j<=k) (hkl:k<l.length),p l[k]=false)->m<n->
 ∃w:Nat,w<=l.length/\iter (WR l key φ) n ((i:Int),(j:Int))=some (w:Int)/\(∀ k (hk:k<w) (hkl:k<l.length),p l[k]=true)/\∀k (hk:w<=k) (hkl:k<l.length),p l[k]=false:=by
 intro m
 induction m with
 |zero=>
  intro i j n hm0 hij hjl h1 h2 hn;obtain⟨n,rfl⟩:∃q,n=q+1:=⟨n -1,by omega⟩;have:i=j:=by omega
  subst this;exact⟨i,hjl,fH (by simp[WR]),h1,h2⟩
 |succ m ih=>
  intro i j n hm0 hij hjl h1 h2 hn;obtain⟨n,rfl⟩:∃q,n=q+1:=⟨n -1,by omega⟩;by_cases hlt:i<j
  ·have c:decide ((i:Int)<(j:Int))=true:=(by simpa using hlt);have c1:(decide (0<=1)&&decide (1<=IntKind.u64.bits))=true:=rfl;have e:i64.wrap ((IntKind.u64.wrap (i64.wrap ((i:Int)+(j:Int))))/2 ^ (1:Int).toNat)=(((i+j)/2:Nat):Int):=by
    rw[apa (by omega),ai5 (by omega),show((((i+j:Nat):Int))/2 ^ (1:Int).toNat)=(((i+j)/2:Nat):Int)by
     rw[show (1:Int).toNat=1 from rfl,Int.pow_one];omega,MW (by omega)]
   have hh:(i+j)/2<l.length:=(by omega);cases hp:p l[(i+j)/2]with
   |true=>
    have s:WR l key φ ((i:Int),(j:Int))=some (.inl ((((i+j)/2+1:Nat):Int),(j:Int))):=by
     simp only[WR,c,aj,c1,e,bq hh,af,hφ,hf,hp];rw[bK (by omega)]
    rw[iG s];refine ih _ _ n (by omega) (by omega) hjl (λ k hk hkl=>?_) h2 (by omega);by_cases hk2:k<(i+j)/2
    ·exact hm k _ hh hk2 hp
    ·have:k=(i+j)/2:=(by omega);subst this;exact hp
   |false=>
    have s:WR l key φ ((i:Int),(j:Int))=some (.inl ((i:Int),(((i+j)/2:Nat):Int))):=(by simp only[WR,c,aj,c1,e,bq hh,af,hφ,hf,hp,ak]);rw[iG s];refine ih _ _ n (by omega) (by omega) (by omega) h1 (λ k hk hkl=>?_) (by omega);by_cases hk2:(i+j)/2<k
    ·cases hpk:p l[k]with
     |false=>rfl
     |true=>have:=hm _ k hkl hk2 hpk;rw[hp]at this;cases this
    ·have:k=(i+j)/2:=(by omega);subst this;exact hp
  ·have:i=j:=(by omega);subst this;exact⟨i,hjl,fH (by simp[WR]),h1,h2⟩
theorem alr(l:List bU)(key:Int)(φ:(bU×Int×Unit)->Option Int):lg l key φ=WR l key φ:=by funext ⟨a,b⟩;rfl
theorem am5(l:List aO)(key:Int)(φ:(aO×Int×Unit)->Option Int):l9 l key φ=WR l key φ:=by funext ⟨a,b⟩;rfl
theorem WS:∀{l:List bU},WO l->l.Pairwise (λ s t=>s.x1<=t.x0)/\∀s∈l,s.x0<s.x1
 |[],_=>⟨List.Pairwise.nil,by simp⟩
 |[s],h=>⟨by simp,λt ht=>by have:t=s:=by simpa using ht
                            subst this;exact h⟩
 |s::t::l,h=>by
  obtain⟨h1,h2,h3⟩:=h;have⟨p1,p2⟩:=WS h3;refine⟨?_,?_⟩
  ·rw[pairwise_cons];refine⟨λ u hu=>?_,p1⟩;rcases aN.1 hu with rfl |hu
   ·omega
   ·have:=(pairwise_cons.1 p1).1 u hu;have:=p2 t (by simp);omega
  ·intro u hu;rcases aN.1 hu with rfl |hu
   ·exact h1
   ·exact p2 u hu
theorem KY{x:Int}:∀{l:List bU},(∀ s∈l,¬(s.x0<=x/\x<s.x1))->Ic l x=[]
 |[],_=>rfl
 |s::l,h=>by
  have:=h s (by simp);rw[yT,show(decide (s.x0<=x)&&decide (x<s.x1))=false by rw[Bool.and_eq_false_iff,dN,dN];omega,ak];exact KY λt ht=>h t (by simp[ht])
theorem aam{x:Int}:∀{l:List bU}{w:Nat}(hw:w<l.length),(∀ k (hk:k<w),¬((l[k]'(by omega)).x0<=x/\x<(l[k]'(by omega)).x1))->l[w].x0<=x->x<l[w].x1->Ic l x=l[w].column
 |[],w,hw,_,_,_=>by simp at hw
 |s::l,0,hw,_,h0,h1=>am4 h0 h1
 |s::l,w+1,hw,hk,h0,h1=>by
  have hs:=hk 0 (by omega);simp only[List.getElem_cons_zero]at hs;rw[yT,show(decide (s.x0<=x)&&decide (x<s.x1))=false by rw[Bool.and_eq_false_iff,dN,dN];omega,ak];exact aam (by simpa using hw) (λ k hk'=>by have:=hk (k+1) (by omega);simpa using this) h0 h1
theorem ad5{l:List bU}{x:Int}(h:WO l)(hl:l.length<1099511627776)(hn:l.length<n):WJ n l x=some (Ic l x):=by
 have⟨a1,a2⟩:=WS h;rw[List.pairwise_iff_getElem]at a1
 have run:=ad4 (l:=l) (key:=x) (φ:=λ(y1:bU×Int×Unit)=>wz y1.1 y1.2.1) (λ s=>decide (s.x1<=x)) (λ s=>if s.x1<=x then -1 else 1)
  (λ s=>by show wz s x=_;unfold wz;by_cases c:s.x1<=x<;>simp[c]) (λ s=>by by_cases c:s.x1<=x<;>simp[c])
  (λ i j hj hij hp=>by
   rw[aV]at hp ⊢;have:=a1 i j (by omega) hj hij;have:=a2 l[j] (getElem_mem _);omega) hl l.length 0 l.length n (by omega) (by omega) (aC _) (λ k hk=>by omega) (λ k hk hkl=>by omega) hn
 obtain⟨w,hw,e,h1,h2⟩:=run;unfold WJ iX;rw[alr];have e':iter (WR l x λ(y1:bU×Int×Unit)=>wz y1.1 y1.2.1) n ((0:Int),(l.length:Int))=some (w:Int):=e;rw[e'];simp only[af];have aq:∀b:Int,∃bb,((bif (decide ((w:Int)<((l.length:Int):Int)))then(bp l (w:Int)).bind λx2=>(wz x2 x).bind λr2=>some ((w:Int),(r2==b))else some ((w:Int),false)):Option (Int×Bool))=some ((w:Int),bb):=by
  intro b;by_cases c:w<l.length
  ·have d:decide ((w:Int)<(l.length:Int))=true:=(by simpa using c);rw[d];simp only[aj];rw[bq c,af];unfold wz;cases decide (l[w].x1<=x)<;>exact⟨_,rfl⟩
  ·have d:decide ((w:Int)<(l.length:Int))=false:=(by simp;omega);rw[d];exact⟨_,rfl⟩
 have⟨bb,hbb⟩:=aq 0;rw[hbb,af];simp only[];by_cases c:w<l.length
 ·have d:decide ((w:Int)<(l.length:Int))=true:=by simpa using c
  simp only[d,aj,bq c,af];have hx1:=h2 w (aC _) c;rw[dN]at hx1;by_cases c2:l[w].x0<=x
  ·simp only[c2,decide_true,aj];rw[aam c (λ k hk hh=>?_) c2 (by omega)];have:=h1 k hk (by omega);rw[aV]at this;omega
  ·simp only[c2,decide_false,ak];rw[KY λs hs hh=>?_];obtain⟨k,hk,rfl⟩:=mem_iff_getElem.1 hs;rcases Nat.lt_trichotomy k w with Bi |rfl |Bi
   ·have:=h1 k Bi hk;rw[aV]at this;omega
   ·omega
   ·have:=a1 w k c hk Bi;have:=a2 l[w] (getElem_mem _);omega
 ·have d:decide ((w:Int)<(l.length:Int))=false:=by simp;omega
  simp only[d,ak,af];rw[KY λs hs hh=>?_];obtain⟨k,hk,rfl⟩:=mem_iff_getElem.1 hs;have:=h1 k (by omega) hk;rw[aV]at this;omega
theorem NS{l:List aO}{y:Int}(h:Can l)(hl:l.length<1099511627776)(hn:l.length<n):Cx n l y=some (hZ l y):=by
 obtain⟨a1,a2⟩:=h;rw[List.pairwise_iff_getElem]at a1
 have run:=ad4 (l:=l) (key:=y) (φ:=λ(y1:aO×Int×Unit)=>lq y1.1 y1.2.1) (λ s=>decide (s.to<=y)) (λ s=>if s.to<=y then -1 else 1)
  (λ s=>by show lq s y=_;unfold lq;by_cases c:s.to<=y<;>simp[c]) (λ s=>by by_cases c:s.to<=y<;>simp[c])
  (λ i j hj hij hp=>by
   rw[aV]at hp ⊢;have:=a1 i j (by omega) hj hij;have:l[j].from_<l[j].to:=a2 l[j] (getElem_mem _);omega) hl l.length 0 l.length n (by omega) (by omega) (aC _) (λ k hk=>by omega) (λ k hk hkl=>by omega) hn
 obtain⟨w,hw,e,h1,h2⟩:=run;unfold Cx jo;rw[am5];have e':iter (WR l y λ(y1:aO×Int×Unit)=>lq y1.1 y1.2.1) n ((0:Int),(l.length:Int))=some (w:Int):=e;rw[e'];simp only[af];have aq:∀b:Int,∃bb,((bif (decide ((w:Int)<((l.length:Int):Int)))then(bp l (w:Int)).bind λx2=>(lq x2 y).bind λr2=>some ((w:Int),(r2==b))else some ((w:Int),false)):Option (Int×Bool))=some ((w:Int),bb):=by
  intro b;by_cases c:w<l.length
  ·have d:decide ((w:Int)<(l.length:Int))=true:=(by simpa using c);rw[d];simp only[aj];rw[bq c,af];unfold lq;cases decide (l[w].to<=y)<;>exact⟨_,rfl⟩
  ·have d:decide ((w:Int)<(l.length:Int))=false:=(by simp;omega);rw[d];exact⟨_,rfl⟩
 have⟨bb,hbb⟩:=aq 0;rw[hbb,af];simp only[];by_cases c:w<l.length
 ·have d:decide ((w:Int)<(l.length:Int))=true:=by simpa using c
  simp only[d,aj,bq c,af];have hx1:=h2 w (aC _) c;rw[dN]at hx1;congr 1;rw[jX,aV,NJ];constructor
  ·exact λhf=>⟨l[w],getElem_mem _,hf,by omega⟩
  ·rintro⟨s,hs,g1,g2⟩;obtain⟨k,hk,rfl⟩:=mem_iff_getElem.1 hs;rcases Nat.lt_trichotomy k w with Bi |rfl |Bi
   ·have:=h1 k Bi hk;rw[aV]at this;omega
   ·exact g1
   ·have:=a1 w k c hk Bi;omega
 ·have d:decide ((w:Int)<(l.length:Int))=false:=by simp;omega
  simp only[d,ak];congr 1;symm;cases hh:hZ l y with
  |false=>rfl
  |true=>
   obtain⟨s,hs,g1,g2⟩:=(NJ _ _).1 hh;obtain⟨k,hk,rfl⟩:=mem_iff_getElem.1 hs;have:=h1 k (by omega) hk;rw[aV]at this;omega
theorem NT{l:List (List aO)}(hf:l.flatten.length<1099511627776)(hl:l.length<1099511627776)(hn:l.length<n):yN n l=some l.flatten:=MX (aO.mk 0 0) (b:=16) hf (by omega) hl hn
theorem NU(l:List aO):(l.flatMap λr=>[r.from_,r.to]).length=2*l.length:=by
 induction l with
 |nil=>rfl
 |cons x l ih=>simp only[List.flatMap_cons,dJ,ih,bI,length_nil];omega
theorem Sl{l:List aO}(hl:l.length<10995116277)(hn:l.length<n):iter (wB l) n ((0:Int),([]:List Int))=some (l.flatMap λr=>[r.from_,r.to]):=by
 have:=fF (l:=l) (step:=wB l) (λ i (s:List Int)=>((i:Int),s)) (λ r s=>s++[r.from_,r.to]) (λ s=>s) (λ i s=>s.length<=2*i)
  (λ i hi s hs=>?_) (λ s hs=>by simp[wB]) n hn [] (aC _)
 ·rw[show ((0:Nat):Int)=0 from rfl]at this;rw[this];have gen:∀(ys:List aO)(s:List Int),ys.foldl (λ s r=>s++[r.from_,r.to]) s=s++ys.flatMap λr=>[r.from_,r.to]:=by
   intro ys
   induction ys with
   |nil=>intro s;simp
   |cons y ys ih=>intro s;simp[ih]
  congr 1;simpa using gen l []
 ·have hi':decide ((i:Int)<(l.length:Int))=true:=by simpa using hi
  have ap:bP s.length s.length (sub ([l[i].from_,l[i].to]:List Int) 0 2).length 2 8=true:=dm (n:=2);simp only[wB,hi',aj,aT hi,aY hi,af,ap,dP,aD];refine⟨?_,by simp;omega⟩;rw[bK (by omega)];rfl
theorem KZ{α β:Type}(p:α->Bool)(f:β->α->β):∀(l:List α)(s:β),(l.filter p).foldl f s=l.foldl (λ s x=>bif p x then f s x else s) s
 |[],s=>rfl
 |x::l,s=>by
  rw[List.filter_cons,foldl_cons];cases h:p x with
  |true=>simp only[if_true,foldl_cons,aj];exact KZ p f l _
  |false=>simp only[Bool.false_eq_true,if_false,ak];exact KZ p f l _
theorem WT(ab:List aO)(p:aO):(ext ab p).length<=ab.length+1:=by
 unfold ext;cases ab.getLast? with
 |none=>simp
 |some q=>simp only;cases q.to==p.from_<;>simp<;>omega
theorem WU(a b:List aO):(kB a b).length<=2*(a.length+b.length):=by
 have h:=qY (j4 (λ a b=>decide (a<b)) ((a++b).flatMap λr=>[r.from_,r.to]));rw[eH,NU,dJ]at h;exact h
theorem YL(keep:Bool->Bool->Bool)(a b:List aO):(uj keep a b).length<=2*(a.length+b.length):=by
 have gen:∀(ys ab:List aO),(ys.foldl ext ab).length<=ab.length+ys.length:=by
  intro ys
  induction ys with
  |nil=>intro ab;simp
  |cons y ys ih=>
   intro ab;simp only[foldl_cons,bI];have:=ih (ext ab y);have:=WT ab y;omega
 have h:=gen ((ja aO.mk (kB a b)).filter λp=>keep (hZ a p.from_) (hZ b p.from_)) [];have h2:=length_filter_le (λ p=>keep (hZ a p.from_) (hZ b p.from_)) (ja aO.mk (kB a b));have h3:=(rG aO.mk (kB a b)).1;have h4:=WU a b;simp only[length_nil]at h;unfold uj;omega
theorem ad6{keep:Bool->Bool->Bool}{φ:(Bool×Bool×Unit)->Option Bool}(hφ:∀p q,φ (p,q,())=some (keep p q)){a b:List aO}(ha:Can a)(hb:Can b)(hl:a.length+b.length<1099511627)(hn:2*(a.length+b.length)+2<n):HV n a b φ=some (uj keep a b):=by
 have fl:[a,b].flatten=a++b:=by simp
 have s2:(sub ([a,b]:List (List aO)) 0 2)=[a,b]:=rfl;have q2:az ([a,b]:List (List aO)).length 2=true:=rfl;have hys:=WU a b;have hfl:((a++b).flatMap λr=>[r.from_,r.to]).length=2*(a.length+b.length):=by rw[NU,dJ]
 unfold HV;rw[s2,q2];simp only[aj];rw[NT (by rw[fl,dJ];omega) (by simp) (by simp;omega),fl];simp only[af,length_nil,aD,aj,Sl (l:=a++b) (n:=n) (by rw[dJ];omega) (by rw[dJ];omega)];rw[oU (by rw[hfl];omega) (by rw[hfl];omega)];simp only[af,eH,aD,aj];rw[uf (by rw[eH,hfl];omega) (by rw[eH,hfl];omega)];simp only[af];have hE:gH (j4 oc ((a++b).flatMap λr=>[r.from_,r.to]))=kB a b:=rfl;rw[hE];have⟨p1,p2⟩:=rG aO.mk (kB a b);have key:iter (wC n a b φ ((),kB a b)) n ((1:Int),([]:List aO))=some (uj keep a b):=by
  have:=fF (l:=ja aO.mk (kB a b)) (step:=wC n a b φ ((),kB a b)) (λ i (s:List aO)=>(((i+1:Nat):Int),s)) (λ p s=>bif keep (hZ a p.from_) (hZ b p.from_)then ext s p else s) (λ s=>s) (λ i s=>s.length<=i)
   (λ i hi s hs=>?_) (λ s hs=>?_) n (by omega) [] (aC _)
  ·rw[show ((0+1:Nat):Int)=1 from rfl]at this;rw[this,uj,KZ]
  ·have hi2:i+1<(kB a b).length:=(by omega);have hi1:i<(kB a b).length:=(by omega);have d:decide (((i+1:Nat):Int)<(((kB a b).length:Nat):Int))=true:=(by simp;omega);have wp:i64.wrap (((i+1:Nat):Int) -1)=(i:Int):=(by rw[mI (by omega) (by omega)];rfl);have pe:(ja aO.mk (kB a b))[i]=aO.mk (kB a b)[i] (kB a b)[i+1]:=p2 i hi2 hi;rw[pe];have lx:=WT s (aO.mk (kB a b)[i] (kB a b)[i+1]);have ap:bP s.length s.length (sub ([(aO.mk (kB a b)[i] (kB a b)[i+1])]:List aO) 0 1).length 1 16=true:=dm (n:=1);have sb:(sub ([(aO.mk (kB a b)[i] (kB a b)[i+1])]:List aO) 0 1)=[aO.mk (kB a b)[i] (kB a b)[i+1]]:=rfl;refine⟨?_,by cases keep (hZ a (kB a b)[i]) (hZ b (kB a b)[i])<;>simp only[aj,ak]<;>omega⟩;simp only[wC,d,aj,wp,aT hi1,aY hi1,af,NS (n:=n) ha (show a.length<1099511627776 by omega) (show a.length<n by omega),NS (n:=n) hb (show b.length<1099511627776 by omega) (show b.length<n by omega),hφ];cases hk:keep (hZ a (kB a b)[i]) (hZ b (kB a b)[i])with
   |false=>
    simp only[Bool.not_false,aj,aD,af,ak];rw[bK (by omega)]
   |true=>
    simp only[Bool.not_true,ak,aj];rcases List.eq_nil_or_concat s with rfl |⟨s0,q,Hp⟩
    ·have d0:decide (((([]:List aO).length:Nat):Int)>0)=false:=(by simp);simp only[d0,ak,af,aT hi2,aY hi2,aj,ap,dP,aD];rw[bK (by omega)];rfl
    ·rw[List.concat_eq_append]at Hp;subst Hp;have d0:decide (((((s0++[q]).length:Nat):Int))>0)=true:=(by simp<;>omega);have AM:(s0++[q]).length=s0.length+1:=(by simp);have wq:i64.wrap ((((s0++[q]).length:Nat):Int) -1)=(s0.length:Int):=(by rw[mI (by simp) (by omega),AM];rfl);have Q2:cC (s0.length:Int) (s0++[q]).length=true:=aT (by omega);have g:bp (s0++[q]) (((0:Nat):Int)+(s0.length:Int))=some q:=(by rw[DZ];simp);have z:(((0:Nat):Int)+(s0.length:Int)).toNat=s0.length:=(by simp);have st:(s0++[q]).set s0.length (aO.mk q.from_ (kB a b)[i+1])=s0++[⟨q.from_,(kB a b)[i+1]⟩]:=(by simp);simp only[d0,aj,wq,Q2,g,af,agl];cases hj:q.to==(kB a b)[i]with
     |true=>
      simp only[aj,aT hi2,aY hi2,af,z,st];have e:az (s0++[q]).length (s0++[(⟨q.from_,(kB a b)[i+1]⟩:aO)]).length=true:=(by simp);simp only[e,aj,af,aD];rw[bK (by omega)]
     |false=>
      rw[sb]at ap;simp only[ak,aT hi2,aY hi2,af,aj,sb,ap,dP,aD];rw[bK (by omega)]
  ·have d:decide ((((ja aO.mk (kB a b)).length+1:Nat):Int)<(((kB a b).length:Nat):Int))=false:=(by simp;omega);simp only[wC,d,ak,aD,aj]
 rw[key];simp only[af,cZ,aD,aj]
theorem CK(keep:Bool->Bool->Bool)(a b:List ax):qG keep a b=(bD (a++b)).map λs=>⟨s.x0,s.x1,uj keep (dx a s.x0) (dx b s.x0)⟩:=by
 have gen:∀es:List Int,ja (λ x x'=>(⟨x,x',uj keep (dx a x) (dx b x)⟩:bU)) es=(ja (λ x x'=>(⟨x,x',dx (a++b) x⟩:bU)) es).map λs=>⟨s.x0,s.x1,uj keep (dx a s.x0) (dx b s.x0)⟩:=by
  intro es
  match es with
  |[]=>rfl
  |[_]=>rfl
  |x::y::l=>
   rw[pR,pR,aF];congr 1;have:∀es:List Int,ja (λ x x'=>(⟨x,x',uj keep (dx a x) (dx b x)⟩:bU)) es=(ja (λ x x'=>(⟨x,x',dx (a++b) x⟩:bU)) es).map λs=>⟨s.x0,s.x1,uj keep (dx a s.x0) (dx b s.x0)⟩:=by
    intro es
    induction es with
    |nil=>rfl
    |cons x es ih=>
     cases es with
     |nil=>rfl
     |cons y es=>rw[pR,pR,aF,ih]
   exact this (y::l)
 exact gen (gV (a++b))
theorem YM{keep:Bool->Bool->Bool}{φ:(Bool×Bool×Unit)->Option Bool}(hφ:∀p q,φ (p,q,())=some (keep p q)){a b:List ax}(ha:a.length<1099511627776)(hb:b.length<1099511627776)(hna:a.length<n)(hnb:b.length<n)(hn:1000<=n):Ec n a b φ=some (oV keep a b):=by
 unfold Ec oV;rw[lN ha hna hn,af];cases hra:cR a with
 |false=>rfl
 |true=>
  rw[lN hb hnb hn];simp only[Bool.not_true,ak,af,Bool.true_and];cases hrb:cR b with
  |false=>rfl
  |true=>
   have⟨a1,a2,_⟩:=uh hra;have⟨b1,b2,_⟩:=uh hrb;have fa:[a].flatten=a:=(by simp);have fb:[b].flatten=b:=(by simp);have fab:[a,b].flatten=a++b:=(by simp);have hab:∀r∈a++b,ej r=true:=λr hr=>by
    rcases bf.1 hr with hr |hr
    ·exact a1 r hr
    ·exact b1 r hr
   have sa:og n [a]=some (bD a):=by
    have:=xR (n:=n) (ls:=[a]) (by rw[fa];exact a1) (by rw[fa];omega) (by simp) (by rw[fa];omega) (by simp;omega)
    rwa [fa]at this
   have sb:og n [b]=some (bD b):=by
    have:=xR (n:=n) (ls:=[b]) (by rw[fb];exact b1) (by rw[fb];omega) (by simp) (by rw[fb];omega) (by simp;omega)
    rwa [fb]at this
   have lab:(a++b).length=a.length+b.length:=dJ;have sab:og n [a,b]=some (bD (a++b)):=by
    have:=xR (n:=n) (ls:=[a,b]) (by rw[fab];exact hab) (by rw[fab,lab];omega) (by simp) (by rw[fab,lab];omega) (by simp;omega)
    rwa [fab]at this
   have e1:(sub ([a]:List (List ax)) 0 1)=[a]:=rfl;have e2:(sub ([b]:List (List ax)) 0 1)=[b]:=rfl;have e3:(sub ([a,b]:List (List ax)) 0 2)=[a,b]:=rfl;have q1:az ([a]:List (List ax)).length 1=true:=rfl;have q2:az ([b]:List (List ax)).length 1=true:=rfl;have q3:az ([a,b]:List (List ax)).length 2=true:=rfl;have la:=ug a;have lb:=ug b;have lS:=ug (a++b);rw[lab]at lS;have mc:∀x,(dx a x).length<=200/\(dx b x).length<=200:=λx=>⟨Nat.le_trans (yR a x) a2,Nat.le_trans (yR b x) b2⟩;have lm:∀x,(uj keep (dx a x) (dx b x)).length<=800:=λx=>by
    have:=YL keep (dx a x) (dx b x);have:=mc x;omega
   have key:iter (qm n φ (bD a) (bD b) (bD (a++b))) n ((0:Int),bD (a++b))=some (qG keep a b):=by
    have:=mh (step:=qm n φ (bD a) (bD b) (bD (a++b))) (λ i=>((i:Int),(qG keep a b).take i++(bD (a++b)).drop i)) (bD (a++b)).length (qG keep a b) (λ i hi=>?_) ?_ n (by omega)
    ·simpa using this
    ·have d:decide ((i:Int)<(((bD (a++b)).length:Nat):Int))=true:=(by simpa using hi);have lc:(qG keep a b).length=(bD (a++b)).length:=(by rw[CK,length_map]);have lt:((qG keep a b).take i).length=i:=(by rw[length_take];omega);have hd:(bD (a++b)).drop i=(bD (a++b))[i]::(bD (a++b)).drop (i+1):=List.drop_eq_getElem_cons hi;have g:bp ((qG keep a b).take i++(bD (a++b)).drop i) (((0:Nat):Int)+(i:Int))=some (bD (a++b))[i]:=(by rw[DZ,jy (by omega),lt,hd];simp);have st:∀s:bU,((qG keep a b).take i++(bD (a++b)).drop i).set i s=(qG keep a b).take i++s::(bD (a++b)).drop (i+1):=by
      intro s;rw[List.set_append_right _ _ (by omega),lt,hd,Nat.sub_self];rfl
     have z:(((0:Nat):Int)+(i:Int)).toNat=i:=(by simp);have tk:(qG keep a b).take (i+1)=(qG keep a b).take i++[⟨(bD (a++b))[i].x0,(bD (a++b))[i].x1,uj keep (dx a (bD (a++b))[i].x0) (dx b (bD (a++b))[i].x0)⟩]:=by
      rw[gF (by omega)];congr 2;simp only[CK,List.getElem_map]
     have hm:=mc (bD (a++b))[i].x0;have mg:HV n (dx a (bD (a++b))[i].x0) (dx b (bD (a++b))[i].x0) φ=some (uj keep (dx a (bD (a++b))[i].x0) (dx b (bD (a++b))[i].x0)):=
      ad6 hφ (NP a1 _).1 (NP b1 _).1 (by omega) (by omega)
     have at1:WJ n (bD a) (bD (a++b))[i].x0=some (dx a (bD (a++b))[i].x0):=(by rw[ad5 (Ih a) (by omega) (by omega),KA]);have at2:WJ n (bD b) (bD (a++b))[i].x0=some (dx b (bD (a++b))[i].x0):=(by rw[ad5 (Ih b) (by omega) (by omega),KA]);simp only[qm,d,aj,aT hi,g,af,cZ,at1,at2,mg,aD,z,st];rw[bK (by omega),tk,aK];rfl
    ·have lc:(qG keep a b).length=(bD (a++b)).length:=(by rw[CK,length_map]);have d:decide ((((bD (a++b)).length:Nat):Int)<(((bD (a++b)).length:Nat):Int))=false:=(by simp);simp only[qm,d,ak,List.drop_length,append_nil];rw[take_of_length_le (by omega)]
   have lc:(qG keep a b).length=(bD (a++b)).length:=(by rw[CK,length_map]);have cc:∀s∈qG keep a b,s.column.length<=800:=by
    intro s hs;rw[CK,mem_map]at hs;obtain⟨t,_,rfl⟩:=hs;exact lm _
   have sl:sub (qG keep a b) 0 (bD (a++b)).length=qG keep a b:=(by rw[<- lc,cZ]);simp only[Bool.not_true,ak,e1,e2,e3,q1,q2,q3,aj,sa,sb,sab,af,cZ,aD,key,sl,lc];rw[RD (b:=800) (by omega) (by omega) cc (by omega) (by omega)];simp only[af,cZ,aD,aj,yM,if_true,Bool.and_self];by_cases q7:(nK (qG keep a b)).length>200
   ·have:decide (((nK (qG keep a b)).length:Int)>200)=true:=(by simp;omega);simp only[this,aj,af,q7,if_true]
   ·have:decide (((nK (qG keep a b)).length:Int)>200)=false:=(by simp;omega);simp only[this,ak,af,q7,if_false]
theorem NV{a b:List ax}(ha:a.length<1099511627776)(hb:b.length<1099511627776)(hna:a.length<n)(hnb:b.length<n)(hn:1000<=n):Cy n a b=some (oV (λ p q=>p&&q) a b):=by
 unfold Cy;rw[YM (keep:=λp q=>p&&q) (λ p q=>by show xG p q=_;unfold xG;cases p<;>rfl) ha hb hna hnb hn];rfl
theorem NW{keep:Bool->Bool->Bool}(a b:List ax):(oV keep a b).1.length<=200:=by
 unfold oV;split
 ·split
  ·simp
  ·show(nK _).length<=200;omega
 ·simp
def RF(r:ax):Int:=(r.x1 -r.x0)*(r.y1 -r.y0)
def K3(l:List ax):Int:=(l.map RF).sum
theorem Ii{r:ax}(h:ej r=true):0<=RF r/\RF r<=1099511627776:=by
 simp only[ej,aL,aV]at h;unfold RF;refine⟨Int.mul_nonneg (by omega) (by omega),?_⟩;have:=Int.mul_le_mul (show r.x1 -r.x0<=1048576 by omega) (show r.y1 -r.y0<=1048576 by omega) (by omega) (by omega);omega
theorem WV:∀{l:List ax},(∀ r∈l,ej r=true)->0<=K3 l/\K3 l<=1099511627776*(l.length:Int)
 |[],_=>by simp[K3]
 |r::l,h=>by
  have h1:=Ii (h r List.mem_cons_self);have h2:=WV (l:=l) λq hq=>h q (eG _ hq);have e:K3 (r::l)=RF r+K3 l:=rfl;rw[e,bI]
  push_cast
  omega
theorem Ij{l:List ax}{φ:(ax×Unit)->Option Bool}(p:ax->Bool)(h:∀x∈l,φ (x,())=some (p x))(hl:l.length<1099511627776)(hn:l.length<n):tO n l φ=some (xw p l):=gD p h hl hn
theorem rY{l:List ax}{φ:(ax×Unit)->Option Bool}(p:ax->Bool)(h:∀x∈l,φ (x,())=some (p x))(hl:l.length<1099511627776)(hn:l.length<n):iZ n l φ=some (l.any p):=by
 unfold iZ;rw[Ij p h hl hn,af,xA]
theorem aan:∀(l:List Int)(x:Int),(l++[x]).sum=l.sum+x
 |[],x=>by simp
 |a::l,x=>by rw[List.cons_append,List.sum_cons,List.sum_cons,aan l x];omega
theorem ajk{r:ax}(h:ej r=true):oP r=some (RF r):=by
 have hb:=Ii h;unfold oP rV;rw[iP,h];simp only[af,aj];simp only[ej,aL,aV]at h;unfold RF at*;rw[dS (x:=r.x1 -r.x0),dS (x:=r.y1 -r.y0),dS (by omega) (by omega)]
theorem K4{a:List ax}(ha:a.length<=900)(hn:1000<=n):Ju n a=some (bif cR a then K3 a else 0):=by
 unfold Ju;rw[lN (by omega) (by omega) hn];simp only[af];cases hr:cR a with
 |false=>rfl
 |true=>
  have ok:=(uh hr).1;have:=mh (step:=Ed a) (λ i=>(K3 (a.take i),(i:Int))) a.length (K3 a) (λ i hi=>?_) ?_ n (by omega)
  ·have e:K3 (a.take 0)=0:=rfl;rw[e,show((0:Nat):Int)=0 from rfl]at this;simp only[Bool.not_true,ak,aj,this,af]
  ·have c:decide ((i:Int)<(a.length:Int))=true:=(by simpa using hi);have h1:=WV (l:=a.take i) λr hr=>ok r (List.mem_of_mem_take hr);rw[length_take]at h1;have h2:=Ii (ok _ (getElem_mem hi));have e:K3 (a.take (i+1))=K3 (a.take i)+RF a[i]:=(by rw[gF hi];unfold K3;rw[List.map_append];exact aan _ _);simp only[Ed,c,aj,bq hi,af,ajk (ok _ (getElem_mem hi))];rw[bK (by omega),dS (by omega) (by omega),e]
  ·simp[Ed]
theorem Qa{α:Type}(p:α->Bool)(l:List α):(match nP p l with |some _=>true |none=>false)=l.any p:=by
 have:=pu p l;rw[<- this];cases nP p l<;>rfl
def N2(p q:ax):Bool:=decide (max p.x0 q.x0<min p.x1 q.x1)&&decide (max p.y0 q.y0<min p.y1 q.y1)
def Ks(a b:List ax):Bool:=a.any λp=>b.any λq=>N2 p q
theorem agm{a b:List ax}(ha:a.length<1099511627776)(hb:b.length<1099511627776)(hna:a.length<n)(hnb:b.length<n):Ur n a b=some (Ks a b):=by
 unfold Ur Ks;rw[rY (λ p=>b.any λq=>N2 p q) (λ p _=>?_) ha hna]
 ·rfl
 ·show Eo n p b=_;unfold Eo;rw[rY (λ q=>N2 p q) (λ q _=>?_) hb hnb]
  ·rfl
  ·show vH q p=_;unfold vH N2;have e1:max q.x0 p.x0=max p.x0 q.x0:=(by omega);have e2:min q.x1 p.x1=min p.x1 q.x1:=(by omega);have e3:max q.y0 p.y0=max p.y0 q.y0:=(by omega);have e4:min q.y1 p.y1=min p.y1 q.y1:=by omega
   first
    |(cases decide (max p.x0 q.x0<min p.x1 q.x1)<;>rfl)
    |(rw [e1,e2,e3,e4];cases decide (max p.x0 q.x0<min p.x1 q.x1)<;>rfl)
theorem agn{a b:List ax}(hl:a.length<1099511627776)(hn:a.length<n):Uq n a b=some (decide (a=b)):=by
 unfold Uq;rw[CF hl hn];rfl
abbrev wy(a b:ax):Bool:=decide (a.y0<b.y0)
theorem ah7:Go.Sort.SWO wy where
 irrefl x:=by simp[wy]
 trans x y z h1 h2:=by simp only[wy,aV]at *;omega
 ntrans x y z h1 h2:=by simp only[wy,dN]at *;omega
instance:Inhabited ax:=⟨ax.mk 0 0 0 0⟩
theorem JQ{l:List ax}{φ:(ax×ax×Unit)->Option Int}(f:ax->ax->Int)(hφ:∀x y,φ (x,y,())=some (f x y))(hf:∀x y,decide (f x y<0)=wy x y)(hl:l.length<1099511627776)(_:l.length<n):uY n l φ=some (kY wy l):=
 adO f hφ hf ah7 hl
structure ape(R:List bU):Prop where
 runs:Runs R
 len:R.length<=200
 col:∀s∈R,Can s.column/\∀q∈s.column,0<=q.from_/\q.from_<q.to/\q.to<=1048576
 xs:∀s∈R,0<=s.x0/\s.x0<s.x1/\s.x1<=1048576
 yW:(R.flatMap λs=>s.column.map (·.from_)).length<=200
theorem agp(p:Nat->Bool)(N:Nat):(nP p (List.range N)=none->(List.range N).any p=false)/\(∀ i,nP p (List.range N)=some i->(List.range N).any p=true):=by
 refine⟨λ h=>?_,λi h=>?_⟩
 ·rw[<- pu,h];rfl
 ·rw[<- pu,h];rfl
theorem Ik{W O:Type}{step:Int->Option (Int⊕(W⊕O))}(N:Nat)(p:Nat->Bool)(w:W)(o:O)
 (h:∀i,i<N->step (i:Int)=some (bif p i then .inr (.inr o)else .inl ((i+1:Nat):Int)))
 (hend:step (N:Int)=some (.inr (.inl w))) (n:Nat) (hn:N<n):iter step n (0:Int)=some (bif (List.range N).any p then .inr o else .inl w):=by
 have:=pq (l:=List.range N) (step:=step) (λ i=>(i:Int)) p w (λ _=>o) (λ i hi=>by
  rw[List.length_range]at hi;rw[List.getElem_range];exact h i hi) (by rw[List.length_range];exact hend) n (by rw[List.length_range];exact hn)
 rw[show ((0:Nat):Int)=0 from rfl]at this;rw[this];have⟨r1,r2⟩:=agp p N;cases hf:nP p (List.range N)with
 |none=>rw[r1 hf];rfl
 |some i=>rw[r2 i hf];rfl
theorem Il{p:List dQ}(hl:p.length<=1000)(hn:2000<=n):iter (pG n p (gu p)) n (0:Int)=some (bif (List.range p.length).any (ID p)then .inr false else .inl ()):=by
 refine Ik p.length (ID p) () false (λ i hi=>?_) ?_ n (by omega)
 ·have nz:((p.length:Int) !=0)=true:=by simp;intro h;rw[h]at hi;simp at hi
  have md:(i+1)%p.length<p.length:=Nat.mod_lt _ (by omega);have w:i64.wrap ((i:Int)+1)=((i+1:Nat):Int):=bK (by omega);have g1:bp (gu p) (((0:Nat):Int)+(i:Int))=some (jb p i):=by rw[aY (by rw[dY];exact hi),yS]
  have g2:bp (gu p) (((0:Nat):Int)+(((i+1)%p.length:Nat):Int))=some (jb p ((i+1)%p.length)):=by rw[aY (by rw[dY];exact md),yS]
  obtain⟨r,hr1,hr2⟩:=KX (n:=n) (pD p 0) (pD p i) (by omega);have g3:bp p 0=some (pD p 0):=by rw[amJ (by omega),<- Ut]
  have g4:bp p (i:Int)=some (pD p i):=by rw[bq hi,<- Ut]
  have dz:decide ((i:Int)>0)=decide (0<i):=by rw[jX];simp
  have pt:dQ.mk (jb p i).lz (jb p i).py=pD p i:=rfl;simp only[pG,dY,bO hi,aj,aT hi,g1,g2,af,nz,w,aal,aT md,pt,NN,mU,NK,g3,g4,hr1,hr2,dz,Option.map_some];unfold ID;generalize Uu (pD p i)=b1;generalize (((jb p i).lz==(jb p i).mi)==((jb p i).py==(jb p i).t8))=b2;generalize (uc (jb p i)==uc (jb p ((i+1)%p.length)))=b3;generalize decide (0<i)=b4;generalize Uv (pD p 0) (pD p i)=b5;cases b1<;>cases b2<;>cases b3<;>cases b4<;>cases b5<;>rfl
 ·simp only[pG,dY,bX,ak]
theorem Im{p:List dQ}(hl:p.length<=1000)(hn:2000<=n){i:Nat}(hi:i<p.length):
 iter (iO (gu p) (i:Int)) n (((i+2:Nat):Int))=some (bif (List.range p.length).any λk=>decide (i+2<=k)&&Sk p i k then .inr (.inr (.inr false))else .inl ()):=by
 have st:∀k,k<p.length->iO (gu p) (i:Int) (k:Int)=some (bif Sk p i k then .inr (.inr (.inr (.inr false)))else .inl ((k+1:Nat):Int)):=by
  intro k hk;have g1:bp (gu p) (((0:Nat):Int)+(i:Int))=some (jb p i):=by rw[aY (by rw[dY];exact hi),yS]
  have g2:bp (gu p) (((0:Nat):Int)+(k:Int))=some (jb p k):=by rw[aY (by rw[dY];exact hk),yS]
  have w:i64.wrap (i64.wrap ((i:Int)+(p.length:Int)) -(k:Int))=((i+p.length -k:Nat):Int):=by rw[dS (x:=(i:Int)+(p.length:Int)),dS (by omega) (by omega)];omega
  have dz:decide (((i+p.length -k:Nat):Int)>1)=decide (i+p.length -k>1):=by rw[jX,aV,aV];omega
  simp only[iO,dY,bO hk,aj,aT hi,aT hk,g1,g2,af,w,dz,CJ,NK,Option.map_some,aM k];unfold Sk;cases decide (i+p.length -k>1)<;>cases O2 (jb p i) (jb p k)<;>rfl
 have main:∀m k,k+m=p.length->∀f,m<f->iter (iO (gu p) (i:Int)) f (k:Int)=some (bif (List.range p.length).any λj=>decide (k<=j)&&Sk p i j then .inr (.inr (.inr false))else .inl ()):=by
  intro m
  induction m with
  |zero=>
   intro k hk f hf;obtain⟨f,rfl⟩:∃g,f=g+1:=⟨f -1,by omega⟩;have:k=p.length:=(by omega);subst this;have e:((List.range p.length).any λj=>decide (p.length<=j)&&Sk p i j)=false:=by
    rw[Bool.eq_false_iff];intro h;rw[any_eq_true]at h;obtain⟨j,h1,h2⟩:=h;rw[List.mem_range]at h1;simp only[aL,aV]at h2;omega
   rw[e];refine fH ?_;simp only[iO,dY,bX,ak]
  |succ m ih=>
   intro k hk f hf;obtain⟨f,rfl⟩:∃g,f=g+1:=⟨f -1,by omega⟩;have hkl:k<p.length:=(by omega);have h1:=st k hkl;cases hb:Sk p i k with
   |true=>
    rw[hb]at h1;have e:((List.range p.length).any λj=>decide (k<=j)&&Sk p i j)=true:=by
     rw[any_eq_true];exact⟨k,List.mem_range.2 hkl,by simp[hb]⟩
    rw[e];exact fH h1
   |false=>
    rw[hb]at h1;rw[iG h1,ih (k+1) (by omega) f (by omega)];congr 2;rw[jX,any_eq_true,any_eq_true];constructor
    ·rintro⟨j,j1,j2⟩;simp only[aL,aV]at j2;exact⟨j,j1,by simp only[aL,aV];exact⟨by omega,j2.2⟩⟩
    ·rintro⟨j,j1,j2⟩;simp only[aL,aV]at j2;refine⟨j,j1,?_⟩;simp only[aL,aV];refine⟨?_,j2.2⟩;rcases Nat.lt_or_ge k j with h |h
     ·omega
     ·have:j=k:=(by omega);subst this;rw[hb]at j2;simp at j2
 by_cases h2:i+2<=p.length
 ·exact main (p.length -(i+2)) (i+2) (by omega) n (by omega)
 ·obtain⟨n,rfl⟩:∃g,n=g+1:=⟨n -1,by omega⟩;have e:((List.range p.length).any λj=>decide (i+2<=j)&&Sk p i j)=false:=by
   rw[Bool.eq_false_iff];intro h;rw[any_eq_true]at h;obtain⟨j,h1,h2⟩:=h;rw[List.mem_range]at h1;simp only[aL,aV]at h2;omega
  rw[e];have d:decide (((i+2:Nat):Int)<(p.length:Int))=false:=by rw[dN];omega
  refine fH ?_;simp only[iO,dY,d,ak]
theorem Io{p:List dQ}(hl:p.length<=1000)(hn:2000<=n):iter (pI n (gu p)) n (0:Int)=some (bif (List.range p.length).any λi=>(List.range p.length).any λk=>decide (i+2<=k)&&Sk p i k then .inr false else .inl ()):=by
 refine Ik p.length _ () false (λ i hi=>?_) ?_ n (by omega)
 ·have w2:i64.wrap ((i:Int)+2)=((i+2:Nat):Int):=by rw[dS (by omega) (by omega)];omega
  simp only[pI,dY,bO hi,aj,w2,Im hl hn hi,aM i];cases (List.range p.length).any λk=>decide (i+2<=k)&&Sk p i k<;>rfl
 ·simp only[pI,dY,bX,ak]
theorem Qb(p:List dQ)(hn:2000<=n):vD n p=some (P9 p):=by
 unfold vD P9;by_cases h4:p.length<4
 ·have d1:decide ((p.length:Int)<4)=true:=by simp;omega
  have d2:decide (4<=p.length)=false:=by simp;omega
  rw[d1,d2];rfl
 ·have d1:decide ((p.length:Int)<4)=false:=by simp;omega
  have d2:decide (4<=p.length)=true:=by simp;omega
  by_cases h60:p.length>60
  ·have d3:decide ((p.length:Int)>60)=true:=(by simp;omega);have d4:decide (p.length<=60)=false:=(by simp;omega);rw[d1,d2,d3,d4];rfl
  ·have d3:decide ((p.length:Int)>60)=false:=(by simp;omega);have d4:decide (p.length<=60)=true:=(by simp;omega);have g:bp (gu p) (((0:Nat):Int)+0)=some (jb p 0):=by
    have:=aY (l:=gu p) (i:=0) (by rw[dY];omega);rw[yS]at this;exact this
   have i0:cC 0 (gu p).length=true:=by
    have:=aT (i:=0) (n:=(gu p).length) (by rw[dY];omega);simpa using this
   rw[d1,d2,d3,d4];simp only[ak,af,Am (n:=n) (p:=p) (by omega) (by omega),Il (n:=n) (p:=p) (by omega) hn,Bool.true_and];cases (List.range p.length).any (ID p)with
   |true=>rfl
   |false=>
    simp only[ak,eD,Io (n:=n) (p:=p) (by omega) hn];cases (List.range p.length).any λi=>(List.range p.length).any λk=>decide (i+2<=k)&&Sk p i k with
    |true=>rfl
    |false=>
     simp only[ak,eD,i0,aj,g,af,mU];rfl
def AY(p:List dQ)(x:Int):List Int:=((gu p).filter λs=>!uc s&&(decide (min s.lz s.mi<=x)&&decide (x<max s.lz s.mi))).map (·.py)
def CO(x0 x1:Int):List Int->List ax
 |a::b::l=>⟨x0,a,x1,b⟩::CO x0 x1 l
 |_=>[]
def nj(p:List dQ):List Int:=F0 (p.map (·.x))
def WW(p:List dQ):List ax:=(ja (λ a b=>CO a b (j4 oc (AY p a))) (nj p)).flatten
def xS(p:List dQ):List ax×Int:=if P9 p=true then(if (WW p).length>200 then([],6)else(WW p,0))else([],10)
theorem agq{p:List dQ}(h:P9 p=true):4<=p.length/\p.length<=60:=by
 unfold P9 at h;simp only[aL,aV]at h;exact⟨h.1,h.2.1⟩
theorem FB{p:List dQ}(hl:p.length<=1000)(hn:2000<=n):iter (lG p) n ((0:Int),([]:List Int))=some (p.map (·.x)):=by
 have:=fF (l:=p) (step:=lG p) (λ i (s:List Int)=>((i:Int),s)) (λ r s=>s++[r.x]) (λ s=>s) (λ i s=>s.length<=i)
  (λ i hi s hs=>?_) (λ s hs=>by simp[lG]) n (by omega) [] (aC _)
 ·rw[show ((0:Nat):Int)=0 from rfl]at this;rw[this];have gen:∀(ys:List dQ)(s:List Int),ys.foldl (λ s r=>s++[r.x]) s=s++ys.map (·.x):=by
   intro ys
   induction ys with
   |nil=>intro s;simp
   |cons y ys ih=>intro s;rw[foldl_cons,ih];simp
  congr 1;simpa using gen p []
 ·have ap:bP s.length s.length (sub ([(p[i]).x]:List Int) 0 1).length 1 8=true:=dm (n:=1);simp only[lG,bO hi,aj,bq hi,af,ap,dP,aD];refine⟨?_,by simp;omega⟩;rw[bK (by omega)];rfl
theorem FD{p:List dQ}(hl:p.length<=1000)(hn:2000<=n)(es:List Int)(i:Nat)(hi:i<es.length):iter (lH ((),es) (gu p) (i:Int)) n ((0:Int),([]:List Int))=some (AY p es[i]):=by
 have:=fF (l:=gu p) (step:=lH ((),es) (gu p) (i:Int)) (λ i (s:List Int)=>((i:Int),s)) (λ r s=>bif !uc r&&(decide (min r.lz r.mi<=es[i])&&decide (es[i] <max r.lz r.mi))then s++[r.py]else s) (λ s=>s) (λ i s=>s.length<=i)
  (λ j hj s hs=>?_) (λ s hs=>by simp[lH]) n (by rw[dY];omega) [] (aC _)
 ·rw[show ((0:Nat):Int)=0 from rfl]at this;rw[this];have gen:∀(ys:List jv)(s:List Int),ys.foldl (λ s r=>bif !uc r&&(decide (min r.lz r.mi<=es[i])&&decide (es[i] <max r.lz r.mi))then s++[r.py]else s) s=s++(ys.filter λs=>!uc s&&(decide (min s.lz s.mi<=es[i])&&decide (es[i] <max s.lz s.mi))).map (·.py):=by
   intro ys
   induction ys with
   |nil=>intro s;simp
   |cons y ys ih=>
    intro s;rw[foldl_cons,ih,List.filter_cons];cases !uc y&&(decide (min y.lz y.mi<=es[i])&&decide (es[i] <max y.lz y.mi))<;>simp
  congr 1;exact gen (gu p) []
 ·rw[dY]at hj;have g:bp (gu p) (((0:Nat):Int)+(j:Int))=some (gu p)[j]:=aY (by rw[dY];exact hj);have ap:bP s.length s.length (sub ([((gu p)[j]'(by rw[dY];exact hj)).py]:List Int) 0 1).length 1 8=true:=dm (n:=1);generalize hr:(gu p)[j]'(by rw[dY];exact hj)=r at*;simp only[lH,dY,bO hj,aj,aT hj,g,af,mU,aT hi,aY hi,NK,ap,dP,aD,aM j];cases uc r<;>cases decide (min r.lz r.mi<=es[i])<;>cases decide (es[i] <max r.lz r.mi)<;>refine⟨rfl,?_⟩<;>simp<;>omega
theorem aao(x0 x1:Int):∀l:List Int,(CO x0 x1 l).length<=l.length
 |[]=>by simp[CO]
 |[_]=>by simp[CO]
 |a::b::l=>by have:=aao x0 x1 l;simp only[CO,bI];omega
theorem FE(es:List Int)(i:Nat)(hi:i+1<es.length)(he:es.length<=10000)(w2 r8:List Int)(hw:w2.length=r8.length)(hr:r8.length<=1000)(ab:List ax)(ho:ab.length<=10000000)(hn:2000<=n):
 iter (jf ((),es) (i:Int) w2 r8) n ((0:Int),ab)=some (ab++CO (es[i]'(by omega)) es[i+1] r8):=by
 have main:∀(m k:Nat)(ab:List ax),k+m=r8.length->ab.length<=10000000+k->∀f,m<f->iter (jf ((),es) (i:Int) w2 r8) f ((k:Int),ab)=some (ab++CO (es[i]'(by omega)) es[i+1] (r8.drop k)):=by
  intro m
  induction m using Nat.strongRecOn with
  |ind m ih=>
   intro k ab hk hko f hf;obtain⟨f,rfl⟩:∃g,f=g+1:=⟨f -1,by omega⟩;have w1:i64.wrap ((k:Int)+1)=((k+1:Nat):Int):=bK (by omega);have w3:i64.wrap ((k:Int)+2)=((k+2:Nat):Int):=(by rw[dS (by omega) (by omega)];omega);have w4:i64.wrap ((i:Int)+1)=((i+1:Nat):Int):=bK (by omega);by_cases h2:k+1<r8.length
   ·have d:decide (((k+1:Nat):Int)<(w2.length:Int))=true:=(by rw[hw];exact bO h2);have ap:bP ab.length ab.length (sub ([(ax.mk (es[i]'(by omega)) (r8[k]'(by omega)) es[i+1] r8[k+1])]:List ax) 0 1).length 1 32=true:=dm (n:=1);have st:jf ((),es) (i:Int) w2 r8 ((k:Int),ab)=some (.inl (((k+2:Nat):Int),ab++[ax.mk (es[i]'(by omega)) (r8[k]'(by omega)) es[i+1] r8[k+1]])):=by
     simp only[jf,w1,w3,w4,d,aj,aT (show i<es.length by omega),aY (show i<es.length by omega),af,aT (show k<w2.length by omega),aY (show k<r8.length by omega),aT hi,aY hi,aT (show k+1<w2.length by omega),aY h2,ap,dP,aD];rfl
    have dr:r8.drop k=r8[k]::r8[k+1]::r8.drop (k+2):=(by rw[List.drop_eq_getElem_cons (by omega),List.drop_eq_getElem_cons h2]);rw[iG st,ih (m -2) (by omega) (k+2) _ (by omega) (by rw[dJ,List.length_singleton];omega) f (by omega),dr];simp[CO]
   ·have d:decide (((k+1:Nat):Int)<(w2.length:Int))=false:=(by rw[hw,dN];omega);have e:CO (es[i]'(by omega)) es[i+1] (r8.drop k)=[]:=by
     have hl:(r8.drop k).length<=1:=by rw[length_drop];omega
     match r8.drop k,hl with
     |[],_=>rfl
     |[_],_=>rfl
     |_::_::_,h=>simp at h
    rw[e,append_nil];refine fH ?_;simp only[jf,w1,d,ak,aD,aj]
 have:=main r8.length 0 ab (by omega) (by omega) n (by omega);rw[show ((0:Nat):Int)=0 from rfl,List.drop_zero]at this;exact this
theorem am6(p:List dQ):(nj p).length<=p.length:=by
 have h:=qY (j4 oc (p.map (·.x)));rw[eH,length_map]at h;exact h
theorem WX(p:List dQ)(x:Int):(AY p x).length<=p.length:=by
 unfold AY;rw[length_map,<- dY p];exact length_filter_le _ _
theorem Ip{α:Type}(b:Nat):∀l:List (List α),(∀ x∈l,x.length<=b)->l.flatten.length<=l.length*b
 |[],_=>by simp
 |x::l,h=>by
  have h1:=Ip b l λy hy=>h y (eG _ hy);have h2:=h x List.mem_cons_self;rw[List.flatten_cons,dJ,bI,Nat.add_mul];omega
theorem FH{p:List dQ}(hl:p.length<=1000)(hn:2000<=n):
 iter (lI n ((),nj p) (gu p)) n ((0:Int),([]:List ax))=some (WW p):=by
 have hx:=am6 p;obtain⟨p1,p2⟩:=rG (λ a b=>CO a b (j4 oc (AY p a))) (nj p)
 let C:=ja (λ a b=>CO a b (j4 oc (AY p a))) (nj p)
 have hC:C.length=(nj p).length -1:=p1;have cl:∀c∈C,c.length<=1000:=by
  intro c hc;obtain⟨i,hi,rfl⟩:=mem_iff_getElem.1 hc;have:=p2 i (by omega) hi;show(C[i]).length<=1000;rw[show C[i]=_ from this];have h1:=aao (nj p)[i] (nj p)[i+1] (j4 oc (AY p (nj p)[i]));rw[eH]at h1;have h2:=WX p (nj p)[i];omega
 have bl:∀i,((C.take i).flatten).length<=1000*1000:=by
  intro i;have h1:=Ip 1000 (C.take i) λx hx=>cl x (List.mem_of_mem_take hx);have h2:(C.take i).length<=1000:=by rw[length_take];omega
  exact Nat.le_trans h1 (Nat.mul_le_mul_right _ h2)
 have main:=mh (step:=lI n ((),nj p) (gu p)) (λ i=>((i:Int),(C.take i).flatten)) C.length (WW p) (λ i hi=>?_) ?_ n (by omega)
 ·simpa using main
 ·have hi2:i+1<(nj p).length:=by omega
  have hw:i64.wrap ((((nj p).length:Nat):Int) -1)=(C.length:Int):=by rw[dS (by omega) (by omega)];omega
  have bi:=bl i;have cr:=WX p (nj p)[i];have e:C.take (i+1)=C.take i++[CO (nj p)[i] (nj p)[i+1] (j4 oc (AY p (nj p)[i]))]:=by
   rw[gF hi];congr 2;exact p2 i hi2 hi
  simp only[lI,hw,bO hi,aj,length_nil,aD,FD hl hn (nj p) i (by omega),af];rw[oU (by omega) (by omega)];simp only[af];rw[FE (nj p) i hi2 (by omega) (AY p (nj p)[i]) (j4 oc (AY p (nj p)[i])) (by rw[eH]) (by rw[eH];omega) _ (by omega) hn];simp only[af,aD,aj,e,List.flatten_append,List.flatten_cons,List.flatten_nil,append_nil,aM i]
 ·have hw:i64.wrap ((((nj p).length:Nat):Int) -1)=(((nj p).length:Nat):Int) -1:=dS (by omega) (by omega);have d:decide ((C.length:Int)<(((nj p).length:Nat):Int) -1)=false:=by rw[dN];omega
  simp only[lI,hw,d,ak,aD,aj,List.take_length];rfl
theorem NY(p:List dQ)(hn:2000<=n):tH n p=some (xS p):=by
 unfold tH xS;rw[Qb p hn];simp only[af];cases hr:P9 p with
 |false=>rfl
 |true=>
  have⟨_,hl⟩:=agq hr;simp only[Bool.not_true,ak,length_nil,aD,aj,FB (n:=n) (p:=p) (by omega) hn,af,if_true];rw[oU (by rw[length_map];omega) (by rw[length_map];omega)];simp only[af,eH,aD,aj];rw[uf (by rw[eH,length_map];omega) (by rw[eH,length_map];omega)];simp only[af,Am (n:=n) (p:=p) (by omega) (by omega)];have hE:gH (j4 oc (p.map (·.x)))=nj p:=rfl;rw[hE,FH (by omega) hn];simp only[af,cZ,aD,aj];by_cases q7:(WW p).length>200
  ·have:decide ((((WW p).length:Nat):Int)>200)=true:=(by simp;omega);rw[this,aX q7];rfl
  ·have:decide ((((WW p).length:Nat):Int)>200)=false:=(by simp;omega);rw[this,aQ q7];rfl
theorem ad8(p:List dQ):(xS p).1.length<=200:=by
 unfold xS;split
 ·split
  ·simp
  ·simp;omega
 ·simp
def aoY(a b:ax):Int:=bif(!ej a || !ej b)then -1 else max (max 0 (i64.wrap ((max a.x0 b.x0) -(min a.x1 b.x1)))) (i64.wrap ((max a.y0 b.y0) -(min a.y1 b.y1)))
theorem als(a b:ax):N3 a b=some (aoY a b):=by
 unfold N3 aoY;rw[iP,iP];simp only[af];cases ej a<;>cases ej b<;>rfl
def N1:bS:=bS.mk 0 0 [] []
def jk(land:List bS)(id:Int):bS×Bool:=match land.find? λt=>t.id==id with
 |some t=>(t,true)
 |none=>(N1,false)
theorem K5{α:Type}(p:α->Bool)(l:List α):(∃ (i:Nat) (h:i<l.length),nP p l=some i/\l.find? p=some l[i])\/(nP p l=none/\l.find? p=none):=by
 rcases D6 p l with ⟨i,hi,h1,h2,h3⟩ |⟨h1,h2⟩
 ·refine .inl ⟨i,hi,h1,?_⟩;rw[List.find?_eq_some_iff_getElem];exact⟨h2,i,hi,rfl,λj hj=>by simpa using h3 j hj⟩
 ·refine .inr ⟨h1,?_⟩;rw[List.find?_eq_none];intro x hx;rw[h2 x hx];simp
def aoZ(t:cu)(name:ByteArray):Int:=match t.rows.find? λe=>ByteArray.toList e.name==ByteArray.toList name with
 |some e=>e.n
 |none=>t.sg
theorem WY{α:Type}(p:α->Bool)(l:List α):(∃ (i:Nat) (h:i<l.length),xw p l=(i:Int)/\l.find? p=some l[i])\/(xw p l= -1/\l.find? p=none):=by
 rcases K5 p l with ⟨i,hi,h1,h2⟩ |⟨h1,h2⟩
 ·exact .inl ⟨i,hi,by simp[xw,h1],h2⟩
 ·exact .inr ⟨by simp[xw,h1],h2⟩
def alu:List ByteArray:=[⟨#[104,111,109,101]⟩,⟨#[115,104,111,112]⟩,⟨#[119,111,114,107]⟩,⟨#[112,97,114,107]⟩,⟨#[112,108,97,110,116]⟩,⟨#[104,97,108,108]⟩]
def nameOf(use:Int):Option ByteArray:=bp alu use
theorem NZ{V O:Type}{step:V->Option (V⊕O)}(R:Nat->V->Prop)(N:Nat)(Q:O->Prop)(h:∀i v,i<N->R i v->∃v',step v=some (.inl v')/\R (i+1) v')(hN:∀v,R N v->∃o,step v=some (.inr o)/\Q o):
 ∀n,N<n->∀v,R 0 v->∃o,iter step n v=some o/\Q o:=by
 have main:∀k i n v,i+k=N->k<n->R i v->∃o,iter step n v=some o/\Q o:=by
  intro k
  induction k with
  |zero=>
   intro i n v hi hn hR;obtain⟨m,rfl⟩:∃m,n=m+1:=⟨n -1,by omega⟩;have:i=N:=(by omega);subst this;have⟨o,h1,h2⟩:=hN v hR;exact⟨o,fH h1,h2⟩
  |succ k ih=>
   intro i n v hi hn hR;obtain⟨m,rfl⟩:∃m,n=m+1:=⟨n -1,by omega⟩;obtain⟨v',h1,h2⟩:=h i v (by omega) hR;obtain⟨o,h3,h4⟩:=ih (i+1) m v' (by omega) (by omega) h2;exact⟨o,by rw[iG h1,h3],h4⟩
 intro n hn v hR;exact main N 0 n v (by omega) hn hR
def AZ(z:dM):List ax:=if (xS z.corners).2=0 then(xS z.corners).1 else []
theorem agr(z:dM):(AZ z).length<=200:=by
 unfold AZ;split
 ·exact ad8 _
 ·simp
theorem Sm(z:dM)(hn:2000<=n):xJ n z=some (AZ z):=by
 unfold xJ AZ;rw[NY _ hn];simp only[af,cZ,aD,aj];by_cases h:(xS z.corners).2=0
 ·have:((xS z.corners).2 !=0)=false:=by simp[h]
  rw[this,aX h];rfl
 ·have:((xS z.corners).2 !=0)=true:=by simp[h]
  rw[this,aQ h];rfl
def Fg(a b:ax):ax:=⟨max a.x0 b.x0,max a.y0 b.y0,min a.x1 b.x1,min a.y1 b.y1⟩
theorem EF(a:ax):rV a=some (bif ej a then(a,true)else(⟨0,0,0,0⟩,false)):=by
 unfold rV;rw[iP];simp only[af,NK]
theorem yU(a b:ax):rW a b=some (bif ej a&&(ej b&&ej (Fg a b))then(Fg a b,true)else(⟨0,0,0,0⟩,false)):=by
 unfold rW;rw[iP,iP];simp only[af,NK];rw[show ax.mk (max a.x0 b.x0) (max a.y0 b.y0) (min a.x1 b.x1) (min a.y1 b.y1)=Fg a b from rfl,EF];simp only[af];generalize ej (Fg a b)=c;cases ej a<;>cases ej b<;>cases c<;>rfl
def Kf(r:ax):Int:=i64.wrap (i64.wrap (r.x1 -r.x0)*i64.wrap (r.y1 -r.y0))
theorem CP{r:ax}(h:ej r=true):oP r=some (Kf r):=by
 unfold oP;rw[EF,h];rfl
def WZ(x:ax)(n:Int)(y:ax):Int:=bif ej x&&(ej y&&ej (Fg x y))then i64.wrap (n+Kf (Fg x y))else n
def EG(a b:List ax):Int:=a.foldl (λ n x=>b.foldl (WZ x) n) 0
theorem am7{α β:Type}(c:Bool)(a:α)(u v:β):(bif c then(a,u)else(a,v)).1=a:=by cases c<;>rfl
theorem Iq(b:List ax)(x:ax)(hb:b.length<=1000)(hn:2000<=n)(m u v:Int):∃o,iter (pJ n b x) n (m,(0:Int),u,v)=some o/\o.1=b.foldl (WZ x) m:=by
 refine NZ (λ i (w:Int×Int×Int×Int)=>w.2.1=(i:Int)/\w.1=(b.take i).foldl (WZ x) m) b.length (λ (o:Int×Int×Int)=>o.1=b.foldl (WZ x) m) (λ i w hi hR=>?_) (λ w hR=>?_) n (by omega) _ ⟨rfl,rfl⟩
 ·obtain⟨w1,w2,w3,w4⟩:=w;obtain⟨h1,h2⟩:=hR;simp only at h1 h2;subst h1;have e:(b.take (i+1)).foldl (WZ x) m=WZ x w1 b[i]:=by rw[gF hi,List.foldl_append,<- h2];rfl
  simp only[pJ,bO hi,aj,bq hi,af,yU];have e0:WZ x w1 b[i]=bif ej x&&(ej b[i]&&ej (Fg x b[i]))then i64.wrap (w1+Kf (Fg x b[i]))else w1:=rfl;rw[e0]at e;cases hc:ej x&&(ej b[i]&&ej (Fg x b[i]))with
  |false=>
   rw[hc]at e;simp only[ak,Bool.not_false,aj,af];exact⟨_,rfl,bK (by omega),e.symm⟩
  |true=>
   rw[hc]at e;have hcc:ej (Fg x b[i])=true:=by
    revert hc;generalize ej (Fg x b[i])=c;cases c
    ·cases ej x<;>cases ej b[i]<;>simp
    ·simp
   simp only[aj,Bool.not_true,ak,CP hcc,af,ku];rw[show ∀u v:Int,sub [u,v] 0 2=[u,v]from λ_ _=>rfl,WN _ _ (by omega)];simp only[af,NK];simp only[show ∀u v:Int,az [u,v].length 2=true from λ_ _=>rfl,aj,af];refine⟨_,rfl,aM i,?_⟩;rw[e];exact am7 _ _ _ _
 ·obtain⟨w1,w2,w3,w4⟩:=w;obtain⟨h1,h2⟩:=hR;simp only at h1 h2;subst h1;simp only[pJ,bX,ak];exact⟨_,rfl,by rw[h2,List.take_length]⟩
theorem Qc(a b:List ax)(ha:a.length<=1000)(hb:b.length<=1000)(hn:2000<=n):∃q,vE n a b=some (EG a b,q):=by
 unfold vE;obtain⟨o,h1,h2⟩:=NZ (step:=pK n a b) (λ i (w:Int×Int×Int×Int)=>w.2.1=(i:Int)/\w.1=(a.take i).foldl (λ n x=>b.foldl (WZ x) n) 0) a.length (λ (o:Int×Int×Int)=>o.1=EG a b) (λ i w hi hR=>by
  obtain⟨w1,w2,w3,w4⟩:=w;obtain⟨h1,h2⟩:=hR;simp only at h1 h2;subst h1;have⟨o,g1,g2⟩:=Iq (n:=n) b a[i] hb hn w1 w3 w4;obtain⟨o1,o2,o3⟩:=o;simp only[pK,bO hi,aj,bq hi,af,g1];refine⟨_,rfl,bK (by omega),?_⟩;simp only at g2;rw[gF hi,List.foldl_append,<- h2,g2];rfl) (λ w hR=>by
  obtain⟨w1,w2,w3,w4⟩:=w;obtain⟨h1,h2⟩:=hR;simp only at h1 h2;subst h1;simp only[pK,bX,ak];exact⟨_,rfl,by rw[h2,List.take_length];rfl⟩) n (by omega) (0,0,1048576,0) ⟨rfl,rfl⟩
 obtain⟨o1,o2,o3⟩:=o;simp only at h2;subst h2;exact⟨_,by rw[h1];rfl⟩
def xU(zs:List dM)(area:List ax):List Int:=bif cR area then zs.map λz=>EG area (AZ z)else []
theorem Qd(p:bB)(a:List ax)(hz:p.zones.length<=100)(ha:a.length<=900)(hn:2000<=n):vF n p a=some (xU p.zones a):=by
 unfold vF xU;rw[lN (by omega) (by omega) (by omega)];simp only[af];cases cR a with
 |false=>rfl
 |true=>
  have:=fF (l:=p.zones) (step:=pM n p a) (λ i (s:List Int)=>((i:Int),s)) (λ z s=>s++[EG a (AZ z)]) (λ s=>s) (λ i s=>s.length<=i)
   (λ i hi s hs=>?_) (λ s hs=>by simp[pM]) n (by omega) [] (aC _)
  ·rw[show ((0:Nat):Int)=0 from rfl]at this;simp only[Bool.not_true,ak,length_nil,aD,aj,this,af,cZ];congr 1;have gen:∀(ys:List dM) (s:List Int),ys.foldl (λ s z=>s++[EG a (AZ z)]) s=s++ys.map λz=>EG a (AZ z):=by
    intro ys
    induction ys with
    |nil=>intro s;simp
    |cons y ys ih=>intro s;rw[foldl_cons,ih];simp
   exact gen p.zones []
  ·have cl:=agr p.zones[i];obtain⟨q,hq⟩:=Qc (n:=n) a (AZ p.zones[i]) (by omega) (by omega) hn;have ap:bP s.length s.length (sub ([EG a (AZ p.zones[i])]:List Int) 0 1).length 1 8=true:=dm (n:=1);simp only[pM,bO hi,aj,bq hi,af,Sm _ hn,cZ,aD,hq,ap,dP];refine⟨?_,by simp;omega⟩;rw[bK (by omega)];rfl
theorem RG(zs:List dM)(a:List ax):(xU zs a).length<=zs.length:=by
 unfold xU;cases cR a<;>simp
def xg(zs:List dM)(l:List Int)(m:Nat):Int:=(List.range m).foldl (λ (b:Int) i=>if (!((zs.getD i ⟨⟨#[]⟩,false,[]⟩).overlay)&&(decide (l.getD i 0>0)&&(decide (b<0) || decide (l.getD i 0>l.getD b.toNat 0))))=true then(i:Int)else b) (-1)
def EH(zs:List dM)(l:List Int)(i:Nat):Bool:=decide ((i:Int)=xg zs l l.length) || ((zs.getD i ⟨⟨#[]⟩,false,[]⟩).overlay&&decide (l.getD i 0>0))
def Ek(zs:List dM)(area:List ax):List ByteArray:=((List.range (xU zs area).length).filter (EH zs (xU zs area))).map λi=>(zs.getD i ⟨⟨#[]⟩,false,[]⟩).name
theorem RH(zs:List dM)(l:List Int):∀m,xg zs l m= -1\/∃k:Nat,k<m/\xg zs l m=(k:Int)
 | 0=> .inl rfl
 |m+1=>by
  have ih:=RH zs l m;unfold xg;rw[List.range_succ,List.foldl_append];simp only[foldl_cons,List.foldl_nil];split
  ·exact .inr ⟨m,by omega,rfl⟩
  ·rcases ih with h |⟨k,h1,h2⟩
   ·exact .inl h
   ·exact .inr ⟨k,by omega,h2⟩
theorem Ir{α:Type}{l:List α}{i:Nat}(d:α)(h:i<l.length):l.getD i d=l[i]:=by simp[h]
theorem Qe(p:bB)(l:List Int)(hl:l.length<=p.zones.length)(hz:p.zones.length<=100)(hn:2000<=n):iter (pO p l) n (((-1):Int),(0:Int))=some (xg p.zones l l.length):=by
 have main:=mh (step:=pO p l) (λ i=>(xg p.zones l i,(i:Int))) l.length (xg p.zones l l.length) (λ i hi=>?_) (by simp[pO]) n (by omega)
 ·exact main
 ·have hz':i<p.zones.length:=by omega
  have e:xg p.zones l (i+1)=if (!(p.zones[i]).overlay&&(decide (l[i]>0)&&(decide (xg p.zones l i<0) || decide (l[i]>l.getD (xg p.zones l i).toNat 0))))=true then(i:Int)else xg p.zones l i:=by
   conv=>lhs;unfold xg
   rw[List.range_succ,List.foldl_append];simp only[foldl_cons,List.foldl_nil,Ir _ hz',Ir _ hi];rfl
  rw[e];rcases RH p.zones l i with h |⟨k,h1,h2⟩
  ·rw[h];have d:decide ((-1:Int)<0)=true:=rfl;simp only[pO,bO hi,aj,aT hi,aY hi,af,bq hz',d,NK,Bool.true_or,Bool.and_true,aM i];cases (p.zones[i]).overlay<;>cases decide (l[i]>0)<;>rfl
  ·rw[h2];have d:decide ((k:Int)<0)=false:=(by simp);have hk:k<l.length:=(by omega);simp only[pO,bO hi,aj,aT hi,aY hi,af,bq hz',d,NK,Bool.false_or,ak,aT hk,aY hk,Int.toNat_natCast,Ir _ hk,aM i];cases (p.zones[i]).overlay<;>cases decide (l[i]>0)<;>cases decide (l[i]>l[k])<;>rfl
theorem abH(p:bB)(a:List ax)(hz:p.zones.length<=100)(ha:a.length<=900)(hn:2000<=n):Cz n p a=some (Ek p.zones a):=by
 unfold Cz;have sl:=RG p.zones a;rw[Qd p a hz ha hn];simp only[af];rw[Qe p _ sl hz hn];simp only[af,length_nil,aD,aj];unfold Ek;generalize hL:xU p.zones a=l at*
 have:=fF (l:=List.range l.length) (step:=xK p l (xg p.zones l l.length)) (λ i (s:List ByteArray)=>((i:Int),s)) (λ i s=>bif EH p.zones l i then s++[(p.zones.getD i ⟨⟨#[]⟩,false,[]⟩).name]else s) (λ s=>s) (λ i s=>s.length<=i)
  (λ i hi s hs=>?_) (λ s hs=>by rw[List.length_range];simp[xK]) n (by rw[List.length_range];omega) [] (aC _)
 ·rw[show ((0:Nat):Int)=0 from rfl]at this;simp only[this,af,cZ,aD,aj];congr 1;have gen:∀(ys:List Nat)(s:List ByteArray),ys.foldl (λ s i=>bif EH p.zones l i then s++[(p.zones.getD i ⟨⟨#[]⟩,false,[]⟩).name]else s) s=s++(ys.filter (EH p.zones l)).map λi=>(p.zones.getD i ⟨⟨#[]⟩,false,[]⟩).name:=by
   intro ys
   induction ys with
   |nil=>intro s;simp
   |cons y ys ih=>
    intro s;rw[foldl_cons,ih,List.filter_cons];cases EH p.zones l y<;>simp
  exact gen (List.range l.length) []
 ·rw[List.length_range]at hi;have hz':i<p.zones.length:=by omega
  rw[List.getElem_range];have ap:bP s.length s.length (sub ([(p.zones[i]).name]:List ByteArray) 0 1).length 1 16=true:=dm (n:=1);have hb:((i:Int)==xg p.zones l l.length)=decide ((i:Int)=xg p.zones l l.length):=by rw[jX];simp
  simp only[xK,bO hi,aj,aT hi,aY hi,af,bq hz',hb,NK,ap,dP,aD,EH,Ir _ hz',Ir _ hi,aM i];cases decide ((i:Int)=xg p.zones l l.length)<;>cases (p.zones[i]).overlay<;>cases decide (l[i]>0)<;>refine⟨rfl,?_⟩<;>simp<;>omega
theorem am8(zs:List dM)(a:List ax):(Ek zs a).length<=zs.length:=by
 unfold Ek;rw[length_map];have h1:=length_filter_le (EH zs (xU zs a)) (List.range (xU zs a).length);rw[List.length_range]at h1;have:=RG zs a;omega
def ll(a b:ByteArray):Bool:=ByteArray.toList a==ByteArray.toList b
theorem uJ{l:List ByteArray}{a:ByteArray}(hl:l.length<1099511627776)(hn:l.length<n):fK n l a=some (l.any (ll a)):=by
 unfold fK;have e:qQ n l a=abn n (λ x=>ByteArray.toList a==ByteArray.toList x) l:=by kernel_rfl
 rw[e,Rv hl hn,af,xA];rfl
theorem pW{l:List ByteArray}{φ:(ByteArray×Unit)->Option Bool}(p:ByteArray->Bool)(h:∀x∈l,φ (x,())=some (p x))(hl:l.length<1099511627776)(hn:l.length<n):fO n l φ=some (l.any p):=by
 unfold fO;have e:qb n l φ=wh n l φ:=by kernel_rfl
 rw[e,gD p h hl hn,af,xA]
def Uw(r:bV)(zs:List ByteArray):Bool:=(decide (r.zones=[]) || r.zones.any λz=>zs.any (ll z))&&!(r.except.any λz=>zs.any (ll z))
theorem Qf(r:bV)(zs:List ByteArray)(h1:r.zones.length<=100)(h2:r.except.length<=100)(h3:zs.length<=100)(hn:2000<=n):qp n r zs=some (Uw r zs):=by
 have hf:∀x:ByteArray,jV n x zs=some (zs.any (ll x)):=λx=>by unfold jV;rw[uJ (by omega) (by omega)];rfl
 unfold qp Uw;rw[pW (λ z=>zs.any (ll z)) (λ x _=>hf x) (by omega) (by omega),pW (λ z=>zs.any (ll z)) (λ x _=>hf x) (by omega) (by omega)];simp only[af,NK];have e:((r.zones.length:Int)==0)=decide (r.zones=[]):=by
  rw[jX,beq_iff_eq,aV];constructor
  ·intro h;exact List.length_eq_zero_iff.1 (by omega)
  ·intro h;rw[h];rfl
 rw[e];cases decide (r.zones=[])<;>cases (r.zones.any λz=>zs.any (ll z))<;>cases (r.except.any λz=>zs.any (ll z))<;>rfl
def qH(zs:List ByteArray)(day:Int)(r:bV):Bool:=decide (r.from_<=day)&&((r.j9==0 || decide (day<r.j9))&&Uw r zs)
def Qg(rules:List bV)(zs:List ByteArray)(day:Int):List Nat:=(List.range rules.length).filter λi=>(rules[i]?).any (qH zs day)
abbrev W9(r:bV):Prop:=r.zones.length<=100/\r.except.length<=100
theorem Sn(p:bB)(zs:List ByteArray)(day:Int)(hr:∀r∈p.rules,W9 r)(hl:p.rules.length<=100)(h3:zs.length<=100)(hn:2000<=n):tJ n p zs day=some ((Qg p.rules zs day).map λ(i:Nat)=>(i:Int)):=by
 unfold tJ Qg
 have:=fF (l:=List.range p.rules.length) (step:=qR n p zs day) (λ i (s:List Int)=>((i:Int),s)) (λ i s=>bif(p.rules[i]?).any (qH zs day)then s++[(i:Int)]else s) (λ s=>s) (λ i s=>s.length<=i)
  (λ i hi s hs=>?_) (λ s hs=>by rw[List.length_range];simp[qR]) n (by rw[List.length_range];omega) [] (aC _)
 ·rw[show ((0:Nat):Int)=0 from rfl]at this;simp only[length_nil,aD,aj,this,af,cZ];congr 1;have gen:∀(ys:List Nat)(s:List Int),ys.foldl (λ s (i:Nat)=>bif(p.rules[i]?).any (qH zs day)then s++[(i:Int)]else s) s=s++(ys.filter λi=>(p.rules[i]?).any (qH zs day)).map λ(i:Nat)=>(i:Int):=by
   intro ys
   induction ys with
   |nil=>intro s;simp
   |cons y ys ih=>
    intro s;rw[foldl_cons,ih,List.filter_cons];cases (p.rules[y]?).any (qH zs day)<;>simp
  exact gen (List.range p.rules.length) []
 ·rw[List.length_range]at hi;rw[List.getElem_range];obtain⟨o1,o2⟩:=hr _ (getElem_mem hi);have ap:bP s.length s.length (sub ([(i:Int)]:List Int) 0 1).length 1 8=true:=dm (n:=1);have eg:(p.rules[i]?).any (qH zs day)=qH zs day p.rules[i]:=by rw[dI hi];rfl
  rw[eg];simp only[qR,bO hi,aj,bq hi,af,Qf _ zs o1 o2 h3 hn,NK,ap,dP,aD,qH,aM i];cases decide ((p.rules[i]).from_<=day)<;>cases (p.rules[i]).j9==0<;>cases decide (day<(p.rules[i]).j9)<;>cases Uw p.rules[i] zs<;>refine⟨rfl,?_⟩<;>simp<;>omega
def Xa(p:dV):Bool:=decide (0<=p.side/\p.side<=3)&&(decide (0<=p.base/\p.base<=4096)&&(decide (0<=p.num/\p.num<=4096)&&decide (1<=p.den/\p.den<=4096)))
theorem alv(p:dV):Xa p=true↔(0<=p.side/\p.side<=3)/\(0<=p.base/\p.base<=4096)/\(0<=p.num/\p.num<=4096)/\(1<=p.den/\p.den<=4096):=by simp only[Xa,aL,aV]
theorem Sq(a b c:Int):nJ a b c=some (decide (b<=a/\a<=c)):=by
 unfold nJ;by_cases h1:b<=a
 ·have d:decide (b<=a)=true:=by simpa using h1
  rw[d,aj];congr 1;rw[jX];simp[h1]
 ·have d:decide (b<=a)=false:=by simpa using h1
  rw[d,ak];congr 1;rw[jX];simp[h1]
theorem Xb(p:dV):Ae p=some (Xa p):=by
 unfold Ae Xa;simp only[Sq,af,NK];generalize decide (0<=p.side/\p.side<=3)=a;generalize decide (0<=p.base/\p.base<=4096)=b;generalize decide (0<=p.num/\p.num<=4096)=c;cases a<;>cases b<;>cases c<;>rfl
theorem A7{l:List dV}{φ:(dV×Unit)->Option Bool}(p:dV->Bool)(h:∀x∈l,φ (x,())=some (p x))(hl:l.length<1099511627776)(hn:l.length<n):kE n l φ=some (l.any p):=by
 unfold kE;have e:rD n l φ=wh n l φ:=by kernel_rfl
 rw[e,gD p h hl hn,af,xA]
def EI(b:ax)(l:List dV):Bool:=ej b&&!(l.any λp=>!Xa p)
theorem Xc(b:ax)(l:List dV)(hl:l.length<=1000)(hn:2000<=n):Af n b l=some (EI b l):=by
 unfold Af EI;rw[iP,A7 (λ p=>!Xa p) (λ p _=>by show tK p=_;unfold tK;rw[Xb];rfl) (by omega) (by omega)];simp only[af,NK];cases ej b<;>rfl
theorem ags{a n:Int}(hn:0<n):(if Int.tmod a n<0 then Int.tdiv a n -1 else Int.tdiv a n)=a/n:=by
 have h1:=Int.mul_ediv_add_emod a n;have h2:=Int.emod_nonneg a (by omega:n≠0);have h3:=Int.emod_lt_of_pos a hn;rcases Int.le_total 0 a with h |h
 ·have e1:Int.tmod a n=a%n:=Int.tmod_eq_emod_of_nonneg h;have e2:Int.tdiv a n=a/n:=Int.tdiv_eq_ediv_of_nonneg h;rw[e1,e2,aQ (by omega)]
 ·obtain⟨b,rfl⟩:∃b,a= -b:=⟨-a,by omega⟩;have hb:0<=b:=by omega
  have e1:Int.tmod (-b) n= -(b%n):=by rw[Int.neg_tmod,Int.tmod_eq_emod_of_nonneg hb]
  have e2:Int.tdiv (-b) n= -(b/n):=by rw[Int.neg_tdiv,Int.tdiv_eq_ediv_of_nonneg hb]
  have g1:=Int.mul_ediv_add_emod b n;have g2:=Int.emod_nonneg b (by omega:n≠0);have g3:=Int.emod_lt_of_pos b hn;rw[e1,e2];by_cases hm:b%n=0
  ·rw[aQ (by omega)];have:(-b)/n= -(b/n):=by
    refine(Int.ediv_eq_iff_of_pos hn).2 ?_;constructor
    ·rw[Int.neg_mul,Int.mul_comm (b/n)];omega
    ·rw[Int.neg_mul,Int.mul_comm (b/n)];omega
   omega
  ·rw[aX (by omega)];have:(-b)/n= -(b/n) -1:=by
    refine(Int.ediv_eq_iff_of_pos hn).2 ?_;constructor
    ·rw[Int.sub_mul,Int.neg_mul,Int.mul_comm (b/n)];omega
    ·rw[Int.sub_mul,Int.neg_mul,Int.mul_comm (b/n)];omega
   omega
theorem N7{a n:Int}(hn:0<n)(ha: -4611686018427387904<=a/\a<=4611686018427387904):tL a n=some (a/n):=by
 have nz:(n !=0)=true:=by simp;omega
 have hb: -4611686018427387904<=a/n/\a/n<=4611686018427387904:=by
  constructor
  ·rw[Int.le_ediv_iff_mul_le hn];have: -4611686018427387904*n<= -4611686018427387904:=(by omega);omega
  ·rcases Int.le_total 0 a with h |h
   ·have:=Int.ediv_le_self n h;omega
   ·have:a/n<=0:=by
     have:=(Int.ediv_lt_iff_lt_mul (a:=a) (b:=1) hn).2 (by omega);omega
    omega
 have hf:=ags (a:=a) hn;have ht: -4611686018427387904<=Int.tdiv a n/\Int.tdiv a n<=4611686018427387905:=by split at hf<;>omega
 unfold tL;simp only[nz,aj];rw[dS (x:=Int.tdiv a n),dS (x:=Int.tdiv a n -1),<- hf];by_cases h:Int.tmod a n<0
 ·have d:decide (Int.tmod a n<0)=true:=by simpa using h
  rw[d,aX h];rfl
 ·have d:decide (Int.tmod a n<0)=false:=by simpa using h
  rw[d,aQ h];rfl
def Xd(b:ax)(side x y:Int):Int:=if side=0 then x -b.x0 else if side=1 then b.x1 -1 -x else if side=2 then y -b.y0 else b.y1 -1 -y
def ao0(b:ax)(p:dV)(x y:Int):Int:=p.base+p.num*Xd b p.side x y/p.den
def YN(b:ax)(l:List dV)(x y:Int):Int:=l.foldl (λ h p=>min h (ao0 b p x y)) 4096
abbrev InG(x y:Int):Prop:=(0<=x/\x<1048576)/\(0<=y/\y<1048576)
theorem aea{b:ax}(hb:ej b=true){x y:Int}(h:InG x y)(side:Int): -1048576<=Xd b side x y/\Xd b side x y<=1048576:=by
 simp only[ej,aL,aV]at hb;obtain⟨h1,h2⟩:=h;unfold Xd;split
 ·omega
 ·split
  ·omega
  ·split<;>omega
theorem ajl{a d:Int}(ha:0<=a/\a<=4096)(hd: -1048576<=d/\d<=1048576): -4294967296<=a*d/\a*d<=4294967296:=by
 have h1:a*d<=a*1048576:=Int.mul_le_mul_of_nonneg_left hd.2 ha.1;have h2:a*(-1048576)<=a*d:=Int.mul_le_mul_of_nonneg_left hd.1 ha.1;omega
theorem ajm{a n:Int}(hn:0<n)(ha: -4294967296<=a/\a<=4294967296): -4294967296<=a/n/\a/n<=4294967296:=by
 constructor
 ·rw[Int.le_ediv_iff_mul_le hn];omega
 ·rcases Int.le_total 0 a with h |h
  ·have:=Int.ediv_le_self n h;omega
  ·have:=(Int.ediv_lt_iff_lt_mul (a:=a) (b:=1) hn).2 (by omega);omega
theorem abI{b:ax}{l:List dV}{x y:Int}(hb:ej b=true)(hp:∀p∈l,Xa p=true)(h:InG x y)(hl:l.length<=1000)(hn:2000<=n):Jw n b l x y=some (YN b l x y):=by
 unfold Jw wS;have hr:=hb;simp only[ej,aL,aV]at hr;obtain⟨h1,h2⟩:=h;rw[dS (x:=x -b.x0),dS (x:=b.x1 -1),dS (x:=b.x1 -1 -x),dS (x:=y -b.y0),dS (x:=b.y1 -1),dS (x:=b.y1 -1 -y)];simp only[af];have:=nZ (l:=l) (step:=xN b l x y ⟨x -b.x0,b.x1 -1 -x,y -b.y0,b.y1 -1 -y⟩) (λ i (s:Int)=>(s,(i:Int))) (λ p s=>min s (ao0 b p x y)) (λ s=>s) (λ i hi s=>?_) (λ s=>by simp[xN]) n (by omega) 4096
 ·rw[show ((0:Nat):Int)=0 from rfl]at this;rw[this];rfl
 ·obtain⟨s1,s2,s3,s4⟩:=(alv _).1 (hp _ (getElem_mem hi));have ib:cC (l[i]).side 4=true:=by simp[cC];omega
  have g:bp ([x -b.x0,b.x1 -1 -x,y -b.y0,b.y1 -1 -y]:List Int) (l[i]).side=some (Xd b (l[i]).side x y):=by
   have hs:(l[i]).side=0\/(l[i]).side=1\/(l[i]).side=2\/(l[i]).side=3:=(by omega);rcases hs with e |e |e |e<;>rw[e]<;>simp[bp,Xd]
  have db:=aea hb ⟨h1,h2⟩ (l[i]).side;have mb:=ajl s3 db;have dv:=ajm (n:=(l[i]).den) (by omega) mb;simp only[xN,bO hi,aj,bq hi,af,ib,g];rw[dS (x:=(l[i]).num*Xd b (l[i]).side x y),N7 (by omega) (by omega)];simp only[af];rw[dS (x:=(l[i]).base+_),bK (by omega)];rfl
theorem aeb(b:ax)(l:List dV):EI b l=true↔ej b=true/\∀p∈l,Xa p=true:=by
 unfold EI;rw[aL,Bool.not_eq_true',List.any_eq_false];simp
def E4(x:fT):Bool:=decide (x.z0<0) || (decide (x.z0>=x.z1) || (decide (x.z1>4096) || (decide (x.area=[]) || !cR x.area)))
def zz(p:Option fT×fT):Bool:=E4 p.2 || p.1.any λq=>decide (q.z1>p.2.z0) || (q.z1==p.2.z0&&decide (q.area=p.2.area))
def A8(s:List fT):List (Option fT×fT):=(none::s.map some).zip s
def EJ(s:List fT):Bool:=decide (s.length<=80)&&!((A8 s).any zz)
theorem oW(s:List fT):(A8 s).length=s.length:=by simp[A8]
theorem EK{s:List fT}{i:Nat}(h:i<(A8 s).length):(A8 s)[i]=(if h0:i=0 then none else some (s[i -1]'(by rw[oW]at h;omega)),s[i]'(by rw[oW]at h;exact h)):=by
 simp only[A8,List.getElem_zip,Prod.mk.injEq,and_true];cases i with
 |zero=>simp
 |succ i=>simp
theorem RI{s:List fT}(ha:∀x∈s,x.area.length<=900)(hn:1000<=n):H6 n s=some (EJ s):=by
 unfold H6 EJ;by_cases h80:s.length<=80
 ·have d:decide ((s.length:Int)>80)=false:=by simp;omega
  have d2:decide (s.length<=80)=true:=by simpa using h80
  have z:∀l:List ax,(((l.length:Int))==0)=decide (l=[]):=λl=>by cases l<;>simp<;>omega
  have:=pq (l:=A8 s) (step:=Ag n s) (λ i=>(i:Int)) zz () (λ _=>false) (λ i hi=>?_) ?_ n (by rw[oW];omega)
  ·rw[show ((0:Nat):Int)=0 from rfl]at this;rw[d,d2,this,<- Qa];cases nP zz (A8 s)<;>rfl
  ·rw[EK];rw[oW]at hi;have hi':decide ((i:Int)<(s.length:Int))=true:=(by simpa using hi);have h1:=ha _ (getElem_mem hi);simp only[Ag,hi',aj,bq hi,af,z,lN (n:=n) (l:=s[i].area) (by omega) (by omega) hn,zz];rw[bK (by omega)];have b:((bif decide (s[i].z0<0)then some true else bif decide (s[i].z0>=s[i].z1)then some true else bif decide (s[i].z1>4096)then some true else bif decide (s[i].area=[])then some true else some (!cR s[i].area)):Option Bool)=some (E4 s[i]):=by
    unfold E4;cases decide (s[i].z0<0)<;>cases decide (s[i].z0>=s[i].z1)<;>cases decide (s[i].z1>4096)<;>cases decide (s[i].area=[])<;>rfl
   rw[b];simp only[af];cases E4 s[i]with
   |true=>simp[dD]
   |false=>
    by_cases h0:i=0
    ·subst h0;have:((((0:Nat):Int))==0)=true:=rfl;simp only[this,aj,ak,eD,dif_pos,Option.any_none,Bool.or_false]
    ·have e0:((i:Int)==0)=false:=(by simp;omega);have w:i64.wrap ((i:Int) -1)=((i -1:Nat):Int):=mI (by omega) (by omega);have h2:=ha _ (getElem_mem (show i -1<s.length by omega));simp only[e0,ak,w,bq (show i -1<s.length by omega),af,agn (n:=n) (a:=s[i -1].area) (b:=s[i].area) (by omega) (by omega),h0,dif_neg,not_false_eq_true,Option.any_some,Bool.false_or];cases decide (s[i -1].z1>s[i].z0)with
     |true=>simp[dD]
     |false=>
      cases s[i -1].z1==s[i].z0 with
      |false=>simp[dD]
      |true=>cases decide (s[i -1].area=s[i].area)<;>simp[dD]
  ·rw[oW];simp[Ag]
 ·have d:decide ((s.length:Int)>80)=true:=by simp;omega
  have d2:decide (s.length<=80)=false:=by simpa using h80
  rw[d,d2];rfl
structure alx(x:fT):Prop where
 lo:0<=x.z0
 lt:x.z0<x.z1
 hi:x.z1<=4096
 ne:x.area≠[]
 rt:cR x.area=true
def ao1(s:List fT):Prop:=∀i (h:i+1<s.length),s[i].z1<=s[i+1].z0/\¬(s[i].z1=s[i+1].z0/\s[i].area=s[i+1].area)
theorem aed(x:fT):E4 x=false↔alx x:=by
 unfold E4;simp only[Bool.or_eq_false_iff,dN,Bool.not_eq_false'];constructor
 ·rintro⟨h1,h2,h3,h4,h5⟩;exact⟨by omega,by omega,by omega,h4,h5⟩
 ·rintro⟨h1,h2,h3,h4,h5⟩;exact⟨by omega,by omega,by omega,h4,h5⟩
theorem Xe(s:List fT):EJ s=true↔s.length<=80/\(∀ x∈s,alx x)/\ao1 s:=by
 unfold EJ;rw[aL,aV,Bool.not_eq_true',List.any_eq_false];refine and_congr_right λ_=>?_;constructor
 ·intro h;have key:∀i (hi:i<s.length),zz ((A8 s)[i]'(by rw[oW];exact hi))=false:=λi hi=>by
   have:=h _ (getElem_mem (show i<(A8 s).length by rw[oW];exact hi));simpa using this
  refine⟨λ x hx=>?_,λi hi=>?_⟩
  ·obtain⟨i,hi,rfl⟩:=mem_iff_getElem.1 hx;have:=key i hi;rw[EK]at this;unfold zz at this;rw[Bool.or_eq_false_iff]at this;exact(aed _).1 this.1
  ·have:=key (i+1) hi;rw[EK]at this;unfold zz at this;rw[Bool.or_eq_false_iff]at this;have h2:=this.2;simp only[Nat.succ_ne_zero,dif_neg,not_false_eq_true,Option.any_some,Nat.add_sub_cancel,Bool.or_eq_false_iff,dN,Bool.and_eq_false_iff,beq_eq_false_iff_ne]at h2;refine⟨by omega,λ⟨e1,e2⟩=>?_⟩;rcases h2.2 with h3 |h3
   ·exact h3 e1
   ·exact h3 e2
 ·rintro⟨h1,h2⟩ p hp;obtain⟨i,hi,rfl⟩:=mem_iff_getElem.1 hp;rw[EK];rw[oW]at hi;unfold zz;have hb:=(aed _).2 (h1 _ (getElem_mem hi));by_cases h0:i=0
  ·simp[h0]at hb ⊢;exact hb
  ·obtain⟨j,rfl⟩:∃j,i=j+1:=⟨i -1,by omega⟩;have⟨n1,n2⟩:=h2 j hi;simp only[Nat.succ_ne_zero,dif_neg,not_false_eq_true,Option.any_some,Nat.add_sub_cancel];rw[hb];simp only[Bool.false_or,Bool.or_eq_true,aV,aL,beq_iff_eq];rintro (h |h)
   ·omega
   ·exact n2 h
theorem rZ{l:List fT}{φ:(fT×Unit)->Option Bool}(p:fT->Bool)(h:∀x∈l,φ (x,())=some (p x))(hl:l.length<1099511627776)(hn:l.length<n):iY n l φ=some (l.any p):=by
 unfold iY tN;have:=pq (l:=l) (step:=lM l φ) (λ i=>(i:Int)) p () (λ i=>(i:Int)) (λ i hi=>?_) (by simp[lM]) n hn
 ·rw[show ((0:Nat):Int)=0 from rfl]at this;rw[this,<- Qa];cases nP p l with
  |none=>rfl
  |some i=>simp<;>omega
 ·have hi':decide ((i:Int)<(l.length:Int))=true:=by simpa using hi
  simp only[lM,hi',aj,bq hi,af,h _ (getElem_mem hi)];rw[bK (by omega)];cases p l[i]<;>rfl
def Mz(s:List fT)(lot:Int)(e:je):Bool:=e.lot==lot&&(cR e.area&&s.any λc=>decide (c.z1>e.top)&&Ks c.area e.area)
def J0(l:List je)(lot:Int)(s:List fT):Bool:=EJ s&&!(l.any (Mz s lot))
theorem YO{l:List je}{lot:Int}{s:List fT}(hl:l.length<=900)(he:∀e∈l,e.area.length<=900)(ha:∀x∈s,x.area.length<=900)(hn:1000<=n):Ep n l lot s=some (J0 l lot s):=by
 unfold Ep J0;rw[RI ha hn];simp only[af];cases hr:EJ s with
 |false=>rfl
 |true=>
 have l80:=((Xe s).1 hr).1;have:=pq (l:=l) (step:=vI n l lot s) (λ i=>(i:Int)) (Mz s lot) () (λ _=>false) (λ i hi=>?_) (by simp[vI]) n (by omega)
 ·rw[show ((0:Nat):Int)=0 from rfl]at this;simp only[Bool.not_true,ak];rw[this,<- Qa];cases nP (Mz s lot) l<;>rfl
 ·have hi':decide ((i:Int)<(l.length:Int))=true:=by simpa using hi
  have h1:=he _ (getElem_mem hi);have cf:=rZ (n:=n) (l:=s) (φ:=λy:fT×Unit=>qy n y.1 l[i]) (λ c=>decide (c.z1>l[i].top)&&Ks c.area l[i].area) (λ c hc=>by
   have:=ha c hc;show qy n c l[i]=_;unfold qy;rw[agm (by omega) (by omega) (by omega) (by omega)];cases decide (c.z1>l[i].top)<;>rfl) (by omega) (by omega)
  simp only[vI,hi',aj,bq hi,af,lN (n:=n) (l:=l[i].area) (by omega) (by omega) hn,cf];rw[bK (by omega)];unfold Mz;cases h2:l[i].lot==lot with
  |false=>
   have:(l[i].lot !=lot)=true:=(by simp[bne,h2]);simp[this,dD]
  |true=>
   have:(l[i].lot !=lot)=false:=(by simp[bne,h2]);simp only[this,ak,af];cases cR l[i].area with
   |false=>simp[dD]
   |true=>cases s.any λc=>decide (c.z1>l[i].top)&&Ks c.area l[i].area<;>simp[dD]
end Go.Proofs
