import Derived.Test.YthblhgapkimgcacGreatTD1
open Go.IntKind (i64)
open List (length_take mem_map all_eq_true getElem_mem length_map mem_iff_getElem append_nil length_drop length_nil foldl_cons take_of_length_le mem_filter any_eq_true length_singleton pairwise_cons length_filter_le map_append pairwise_append getElem_drop)
namespace Go.Proofs
open Go.Gb Go.RowKit
variable {n:Nat}
theorem kC(a b:Int):cmp_Compare_int a b=some (if a<b then -1 else if b<a then 1 else 0):=by
 by_cases h1:a<b
 .simp[cmp_Compare_int,cmp_isNaN_int,h1]
 .by_cases h2:b<a
  .simp[cmp_Compare_int,cmp_isNaN_int,h1,h2]
  .simp[cmp_Compare_int,cmp_isNaN_int,h1,h2]
theorem pI{l:U Int}(hl:l.length<1099511627776)(_:l.length<n):pu n l=some (j6 ot l):=by
 show Lo l=_;unfold Lo;rw[Nat.ble_eq_true_of_le (show l.length<=1099511627775 by omega),aj]
theorem uy{l:U Int}(hl:l.length<1099511627776)(hn:l.length<n):pz n l=some ((),gF l):=by
 rw[<- aec];exact YU (eq:=λx y=>x==y) (ne:=λx y=>x !=y) (λ x y=>by simp[bne]) hl hn
theorem SS{l:U Int}{a:Int}(hl:l.length<1099511627776)(hn:l.length<n):EA n l a=some (wW (λ x=>a==x) l):=RX hl hn
theorem LG{l:U Int}{a:Int}(hl:l.length<1099511627776)(hn:l.length<n):qZ n l a=some (l.any λx=>a==x):=by
 unfold qZ;rw[SS hl hn,af,xH]
theorem F7{l:U dh}{φ:(dh×Unit)->J Bool}(p:dh->Bool)(h:∀x∈l,φ (x,())=some (p x))(hl:l.length<1099511627776)(hn:l.length<n):rM n l φ=some (wW p l):=fJ p h hl hn
theorem F8{l:U bW}{φ:(bW×Unit)->J Bool}(p:bW->Bool)(h:∀x∈l,φ (x,())=some (p x))(hl:l.length<1099511627776)(hn:l.length<n):kr n l φ=some (wW p l):=fJ p h hl hn
theorem Qh{l:U ax}(h:l.length<1099511627776):Bj l=some l:=RY (b:=32) (by omega) (by simp only[maxLen];omega)
theorem N9{l:U (List ax)}(hf:l.flatten.length<1099511627776)(hl:l.length<1099511627776)(hn:l.length<n):yS n l=some l.flatten:=Nn (ax.mk 0 0 0 0) (b:=32) hf (by omega) hl hn
theorem Db{a b:U ax}(hl:a.length<1099511627776)(hn:a.length<n):oF n a b=some (decide (a=b)):=by
 have e:oF n a b=UA n (λ x1 x2:ax=>!((x1.x0==(x2.x0:Int))&&((x1.y0==(x2.y0:Int))&&((x1.x1==(x2.x1:Int))&&((x1.y1==(x2.y1:Int))&&true))))) a b:=by kernel_rfl
 rw[e];refine RZ (λ x y=>?_) hl hn;obtain⟨a,b,c,d⟩:=x;obtain⟨e,f,g,h⟩:=y;simp only[ax.mk.injEq,Bool.and_true];rw[jZ];simp
theorem Dc{a b:U aN}(hl:a.length<1099511627776)(hn:a.length<n):vK n a b=some (decide (a=b)):=by
 have e:vK n a b=UA n (λ x1 x2:aN=>!((x1.from_==(x2.from_:Int))&&((x1.to==(x2.to:Int))&&true))) a b:=by kernel_rfl
 rw[e];refine RZ (λ x y=>?_) hl hn;obtain⟨a,b⟩:=x;obtain⟨c,d⟩:=y;simp only[aN.mk.injEq,Bool.and_true];rw[jZ];simp
abbrev s6(a b:aN):Bool:=decide (a.from_<b.from_)
theorem Oa:Go.Sort.SWO s6 where
 irrefl x:=by simp[s6]
 trans x y z h1 h2:=by simp only[s6,aV]at *;omega
 ntrans x y z h1 h2:=by simp only[s6,dP]at *;omega
theorem Ko{l:U aN}{φ:(aN×aN×Unit)->J Int}(f:aN->aN->Int)(hφ:∀x y,φ (x,y,())=some (f x y))(hf:∀x y,decide (f x y<0)=s6 x y)(hl:l.length<1099511627776)(_:l.length<n):ve n l φ=some (lq s6 l):=
 aem f hφ hf Oa hl
theorem AJ{V O:Type}{step:V->J (V⊕O)}(Inv:V->Prop)(Post:O->Prop)(μ:V->Nat)
 (h:∀v,Inv v->(∃ v',step v=some (.inl v')/\Inv v'/\μ v'< μ v)\/∃o,step v=some (.inr o)/\Post o):∀(n:Nat)(v:V),Inv v->μ v<n->∃o,iter step n v=some o/\Post o
 | 0,_,_,hn=>absurd hn (Nat.not_lt_zero _)
 |n+1,v,hi,hn=>by
  rcases h v hi with ⟨v',h1,h2,h3⟩ |⟨o,h1,h2⟩
  .rw[gY h1];exact AJ Inv Post μ h n v' h2 (by omega)
  .exact⟨o,fD h1,h2⟩
theorem IE:∀(N:Nat)(l:U Nat),l.Nodup->(∀ y∈l,y<N)->l.length<=N
 | 0,[],_,_=>aD _
 | 0,x::l,_,h=>absurd (h x (by simp)) (by omega)
 |N+1,l,hn,h=>by
  have h1:=IE N (l.filter λy=>decide (y≠N)) (hn.filter _) (λ y hy=>by
   rw[mem_filter]at hy;have:=h y hy.1;have:=hy.2;simp only[aV]at this;omega)
  have h2:=List.length_eq_countP_add_countP (λ y=>decide (y≠N)) (l:=l);rw[List.countP_eq_length_filter]at h2;have h3:List.countP (λ a=>decide ¬(decide (a≠N)=true)) l=l.count N:=by
   rw[List.count];refine List.countP_congr λy _=>?_;simp
  have h4:=List.nodup_iff_count.1 hn N;omega
def Y0(us:U (List Int))(N:Nat):Prop:=us.length=N/\N<=4000000/\∀l∈us,l.length<=4000000/\∀k∈l,0<=k/\k<(N:Int)
structure BI(us:List (List Int))(N to h:Nat)(d:List Int)(F:List Nat):Prop where
 dl:d.length=N
 nd:F.Nodup
 rg:∀x∈F,x<N
 mem:∀i:Nat,i<N->(0<=d.getD i 0↔i∈F)
 ub:∀j x:Nat,F[j]? =some x->d.getD x 0<=(j:Int)
 pre:∀j x:Nat,F[j]? =some x->0<j->∃p y:Nat,p<j/\F[p]? =some y/\(y:Int)∈us.getD x []/\d.getD y 0=d.getD x 0 -1
 hd:F[0]? =some to/\d.getD to 0=0
 hh:h<=F.length
 cl:∀p y:Nat,p<h->F[p]? =some y->∀i:Nat,i<N->(y:Int)∈us.getD i []->0<=d.getD i 0
theorem BI.len{us:U (List Int)}{N to h:Nat}{d:U Int}{F:U Nat}(b:BI us N to h d F):F.length<=N:=by exact IE N F b.nd b.rg
theorem BI.push{us:U (List Int)}{N to h:Nat}{d:U Int}{F:U Nat}(b:BI us N to h d F){i x p:Nat}(hi:i<N)(hd:d.getD i 0<0)(hp:F[p]? =some x)(hx:(x:Int)∈us.getD i []):
 BI us N to h (d.set i (d.getD x 0+1)) (F++[i]):=by
 have hiF:i∉F:=λhm=>by have:=(b.mem i hi).2 hm;omega
 have Se:x∈F:=dw hp;have hne:∀y,y∈F->i≠y:=λy hy e=>hiF (e ▸ hy);have hset:∀y,y∈F->(d.set i (d.getD x 0+1)).getD y 0=d.getD y 0:=λy hy=>by simp only[List.getD,List.getElem?_set_ne (hne y hy)]
 have vi:(d.set i (d.getD x 0+1)).getD i 0=d.getD x 0+1:=by
  have:i<d.length:=by rw[b.dl];exact hi
  simp[List.getD,this]
 have hx0:0<=d.getD x 0:=(b.mem x (b.rg x Se)).2 Se;have hlt:p<F.length:=(dH.1 hp).1;refine⟨by simpa using b.dl,?_,?_,?_,?_,?_,?_,?_,?_⟩
 .rw[List.nodup_append];exact⟨b.nd,by simp,λa ha c hc=>by simp at hc;subst hc;exact λe=>hiF (e ▸ ha)⟩
 .intro y hy;rw[aZ]at hy;rcases hy with hy |hy
  .exact b.rg y hy
  .simp at hy;omega
 .intro j hj;by_cases e:i=j
  .subst e;rw[vi];exact⟨λ _=>by simp,λ_=>by omega⟩
  .simp only[List.getD,List.getElem?_set_ne e];rw[aZ];have:=b.mem j hj;simp only[List.getD]at this;rw[this];simp[Ne.symm e]
 .intro j y hy;rw[List.getElem?_append]at hy;split at hy
  .rw[hset y (dw hy)];exact b.ub j y hy
  .rename_i hj;have:y=i/\j=F.length:=by
    cases h:j -F.length with
    |zero=>rw[h]at hy;simp at hy;exact⟨hy.symm,by omega⟩
    |succ z=>rw[h]at hy;simp at hy
   obtain⟨rfl,rfl⟩:=this;rw[vi];have:=b.ub p x hp;omega
 .intro j y hy hj;rw[List.getElem?_append]at hy;split at hy
  .have⟨p',y',h1,h2,h3,h4⟩:=b.pre j y hy hj;exact⟨p',y',h1,by rw[List.getElem?_append_left (by have:=(dH.1 h2).1;exact this)];exact h2,h3,by rw[hset y' (dw h2),hset y (dw hy)];exact h4⟩
  .rename_i hj';have:y=i/\j=F.length:=by
    cases h:j -F.length with
    |zero=>rw[h]at hy;simp at hy;exact⟨hy.symm,by omega⟩
    |succ z=>rw[h]at hy;simp at hy
   obtain⟨rfl,rfl⟩:=this;exact⟨p,x,hlt,by rw[List.getElem?_append_left hlt];exact hp,hx,by rw[vi,hset x Se];omega⟩
 .have h0:=(dH.1 b.hd.1).1;exact⟨by rw[List.getElem?_append_left h0];exact b.hd.1,by rw[hset _ (dw b.hd.1)];exact b.hd.2⟩
 .have:=b.hh;simp;omega
 .intro p' y hp' hy j hj hm;rw[List.getElem?_append_left (by have:=b.hh;omega)]at hy;have:=b.cl p' y hp' hy j hj hm;rw[hset j ((b.mem j hj).1 this)];exact this
theorem pw{α:Type}(o:Nat)(l:U α):VE o l=l.drop o:=by cases o<;>simp[VE]
def BS(us:U (List Int))(N to h x:Nat):(Int×Int×List Int×List Int)->Prop
 |(v4,v5,d,v7)=>∃(o i:Nat)(F:U Nat),v4=(o:Int)/\v5=(i:Int)/\o<=v7.length/\v7.drop o=(F.drop (h+1)).map (λ k:Nat=>(k:Int))/\i<=N/\BI us N to h d F/\F[h]? =some x/\∀i',i'<i->(x:Int)∈us.getD i' []->0<=d.getD i' 0
theorem aof{n N to h x:Nat}{a0:o9}{r1:U Int}(hg:Y0 a0.uses N)(hr:r1.length=N)(hn:4000001<=n)(v:Int×Int×List Int×List Int)(hv:BS a0.uses N to h x v):
 (∃ v',fU n a0 r1 x v=some (.inl v')/\BS a0.uses N to h x v'/\N -v'.2.1.toNat<N -v.2.1.toNat)\/
 ∃q,fU n a0 r1 x v=some (.inr q)/\∃(o:Nat)(F:U Nat),q.1=(o:Int)/\o<=q.2.2.length/\q.2.2.drop o=(F.drop (h+1)).map (λ k:Nat=>(k:Int))/\BI a0.uses N to (h+1) q.2.1 F:=by
 obtain⟨v4,v5,d,v7⟩:=v;obtain⟨o,i,F,rfl,rfl,ho,hq,hi,hb,hx,hc⟩:=hv;have hx':x<N:=hb.rg x (dw hx);have Fi:=hg.1;have hdl:=hb.dl;by_cases hlt:i<N
 .left;have wj:i<a0.uses.length:=by omega
  have hl:=hg.2.2 a0.uses[i] (getElem_mem wj);have hcon:=LG (n:=n) (l:=a0.uses[i]) (a:=(x:Int)) (by omega) (by omega);have hud:a0.uses.getD i []=a0.uses[i]:=by simp[List.getD,wj]
  have hdi:d[i]'(by omega)=d.getD i 0:=by simp[List.getD,show i<d.length by omega]
  have Fk:d[x]'(by omega)=d.getD x 0:=by simp[List.getD,show x<d.length by omega]
  simp only[fU,show decide ((i:Int)<((a0.uses.length:Int)))=true from by simp;omega,aj,bf wj,af,aU (show i<r1.length by omega),aU (show x<r1.length by omega),
   aW (show i<d.length by omega),aW (show x<d.length by omega),hcon,hdi,Fk]
  have hFl:=hb.len;have hN:=hg.2.1;have hlen:v7.length -o=F.length -(h+1):=by have:=congrArg List.length hq;simpa using this
  have hmx:maxLen=9223372036854775807:=rfl;by_cases hA:d.getD i 0<0/\(x:Int)∈a0.uses[i]
  .have h1:(a0.uses[i].any λy=>(x:Int)==y)=true:=any_eq_true.2 ⟨_,hA.2,by simp⟩;have hx0:0<=d.getD x 0:=(hb.mem x hx').2 (dw hx);have hxu:=hb.ub h x hx;have Ts:h<F.length:=(dH.1 hx).1;have hap:bP (v7.drop o).length (v7.length -o) (sub [(i:Int)] 0 1).length 1 8=true:=(by simp[bP,sub];omega);have hw:i64.wrap (d.getD x 0+1)=d.getD x 0+1:=dU (by omega) (by omega);refine⟨(((0:Nat):Int),((i+1:Nat):Int),d.set i (d.getD x 0+1),v7.drop o++[(i:Int)]),?_,?_,by show N -((i+1:Nat):Int).toNat<N -(i:Int).toNat;omega⟩
   .simp only[hA.1,decide_true,aj,af,h1,Int.toNat_natCast,pw,hap,dO,hw,aK i];simp[aE,sub]
   .refine⟨0,i+1,F++[i],rfl,rfl,Nat.zero_le _,?_,by omega,hb.push hlt hA.1 hx (by rw[hud];exact hA.2),by rw[List.getElem?_append_left Ts];exact hx,?_⟩
    .rw[List.drop_zero,hq,List.drop_append_of_le_length (by omega)];simp
    .intro i' hi' hm;have hpush:=hb.push hlt hA.1 hx (by rw[hud];exact hA.2);by_cases e:i'=i
     .subst e;exact(hpush.mem i' hlt).2 (by simp)
     .have:=hc i' (by omega) hm;exact(hpush.mem i' (by omega)).2 (List.mem_append_left _ ((hb.mem i' (by omega)).1 this))
  .have hB:(bif decide (d.getD i 0<0)then some (a0.uses[i].any λy=>(x:Int)==y)else some false)=some false:=by
    by_cases h2:d.getD i 0<0
    .simp only[h2,decide_true,aj,aA];cases hc:(a0.uses[i].any λy=>(x:Int)==y)with
     |false=>rfl
     |true=>
      obtain⟨y,hy,e⟩:=any_eq_true.1 hc;obtain rfl:(x:Int)=y:=(by simpa using e);exact absurd ⟨h2,hy⟩ hA
    .simp only[h2,decide_false,ak]
   refine⟨((o:Int),((i+1:Nat):Int),d,v7),?_,?_,by show N -((i+1:Nat):Int).toNat<N -(i:Int).toNat;omega⟩
   .rw[hB];simp only[af,ak,Int.toNat_natCast,Et (show o+(v7.length -o)=v7.length by omega),aj,aK i]
   .refine⟨o,i+1,F,rfl,rfl,ho,hq,by omega,hb,hx,λi' hi' hm=>?_⟩;by_cases e:i'=i
    .subst e;rw[hud]at hm;exact Int.not_lt.1 λh2=>hA ⟨h2,hm⟩
    .exact hc i' (by omega) hm
 .right;have hiN:i=N:=by omega
  have Ts:h<F.length:=(dH.1 hx).1;refine⟨((o:Int),d,v7),?_,o,F,rfl,ho,hq,?_⟩
  .simp only[fU,show decide ((i:Int)<((a0.uses.length:Int)))=false from by simp;omega,ak,Int.toNat_natCast,Et (show o+(v7.length -o)=v7.length by omega),aj]
  .refine⟨hb.dl,hb.nd,hb.rg,hb.mem,hb.ub,hb.pre,hb.hd,Ts,λp y hp hy j hj hm=>?_⟩;by_cases e:p=h
   .subst e;rw[hx]at hy;cases hy;exact hc j (by omega) hm
   .exact hb.cl p y (by omega) hy j hj hm
def BO(us:U (List Int))(N to h:Nat):(Int×List Int×List Int)->Prop
 |(v1,d,v3)=>∃(o:Nat)(F:U Nat),v1=(o:Int)/\o<=v3.length/\v3.drop o=(F.drop h).map (λ k:Nat=>(k:Int))/\BI us N to h d F
theorem aog{n N to h:Nat}{a0:o9}{r1:U Int}(hg:Y0 a0.uses N)(hr:r1.length=N)(hn:4000001<=n)(v:Int×List Int×List Int)(hv:BO a0.uses N to h v):
 (∃ v',dY n a0 r1 v=some (.inl v')/\BO a0.uses N to (h+1) v')\/∃d,dY n a0 r1 v=some (.inr d)/\∃F,BI a0.uses N to F.length d F:=by
 obtain⟨v1,d,v3⟩:=v;obtain⟨o,F,rfl,ho,hq,hb⟩:=hv;have hlen:v3.length -o=F.length -h:=by have:=congrArg List.length hq;simpa using this
 by_cases hlt:h<F.length
 .left;obtain⟨x,hx⟩:∃x,F[h]? =some x:=⟨_,dQ hlt⟩;have hox:v3[o]? =some (x:Int):=by
   have:=congrArg (λ l=>l[0]?) hq;simpa[hx]using this
  have hdr:v3.drop (o+1)=(F.drop (h+1)).map (λ k:Nat=>(k:Int)):=by
   have:=congrArg (λ l=>l.drop 1) hq;simpa using this
  obtain⟨q,hq1,o2,F2,hq2,hq3,hq4,hq5⟩:=AJ (BS a0.uses N to h x) (λ q:Int×List Int×List Int=>∃(o:Nat)(F:U Nat),q.1=(o:Int)/\o<=q.2.2.length/\q.2.2.drop o=(F.drop (h+1)).map (λ k:Nat=>(k:Int))/\BI a0.uses N to (h+1) q.2.1 F)
   (λ v=>N -v.2.1.toNat) (aof (r1:=r1) hg hr hn) n (((o+1:Nat):Int),0,d,v3) ⟨o+1,0,F,rfl,rfl,by omega,hdr,Nat.zero_le _,hb,hx,λi' hi'=>absurd hi' (Nat.not_lt_zero _)⟩ (by have:=hg.2.1;simp;omega)
  obtain⟨w1,w2,w3⟩:=q;simp only at hq2 hq3 hq4 hq5;subst hq2;refine⟨((o2:Int),w2,w3),?_,o2,F2,rfl,hq3,hq4,hq5⟩;have hat:bo v3 ((o:Int)+0)=some (x:Int):=by rw[Int.add_zero,agI];exact hox
  simp only[dY,Int.toNat_natCast,show decide (((v3.length -o:Nat):Int)>0)=true from by simp;omega,aj,show cN 0 (v3.length -o)=true from by simp[cN];omega,hat,af,
   uY (show (0:Int)<=1 by omega) (show (1:Int)<=((v3.length -o:Nat):Int)by omega) (Int.le_refl _),Et (show o+1+(v3.length -o -1)=v3.length by omega),hq1,Et (show o2+(w3.length -o2)=w3.length by omega)]
 .right;have hhF:h=F.length:=by have:=hb.hh;omega
  refine⟨d,?_,F,hhF ▸ hb⟩;simp only[dY,Int.toNat_natCast,show decide (((v3.length -o:Nat):Int)>0)=false from by simp;omega,ak]
theorem dI{V O:Type}{step:V->J (V⊕O)}(Inv:Nat->V->Prop)(Post:O->Prop)(K:Nat)(hK:∀k v,Inv k v->k<=K)
 (h:∀k v,Inv k v->(∃ v',step v=some (.inl v')/\Inv (k+1) v')\/∃o,step v=some (.inr o)/\Post o):∀(n k:Nat)(v:V),Inv k v->K<n+k->∃o,iter step n v=some o/\Post o
 | 0,k,v,hi,hn=>absurd (hK k v hi) (by omega)
 |n+1,k,v,hi,hn=>by
  rcases h k v hi with ⟨v',h1,h2⟩ |⟨o,h1,h2⟩
  .rw[gY h1];exact dI Inv Post K hK h n (k+1) v' h2 (by omega)
  .exact⟨o,fD h1,h2⟩
theorem ab0{n N to:Nat}{a0:o9}(hg:Y0 a0.uses N)(hd:a0.defs.length=N)(hn:4000002<=n)(ht:to<N):∃d F,jB n a0 to=some d/\BI a0.uses N to F.length d F:=by
 have hN:=hg.2.1;have hr:qG (sub ([(-1)]:U Int) 0 1) (N:Int)=some (List.replicate N (-1)):=by
  show(ck (decide (0<=(N:Int))&&decide ((N:Int)<=1000000000000)) (some (List.replicate (N:Int).toNat (-1))))=_;rw[show decide (0<=(N:Int))=true by simp,show decide ((N:Int)<=1000000000000)=true by simp;omega];rfl
 have hlr:(List.replicate N (-1:Int)).length=N:=List.length_replicate;have hb0:BI a0.uses N to 0 ((List.replicate N (-1:Int)).set to 0) [to]:=by
  have hto:((List.replicate N (-1:Int)).set to 0).getD to 0=0:=by simp[List.getD,ht]
  refine⟨by simp,by simp,λx hx=>by simp at hx;omega,λi hi=>?_,λj x hx=>?_,λj x hx hj=>?_,⟨rfl,hto⟩,by simp,λp y hp=>absurd hp (Nat.not_lt_zero _)⟩
  .by_cases e:to=i
   .subst e;rw[hto];simp
   .simp only[List.getD,List.getElem?_set_ne e];simp[hi,Ne.symm e]
  .cases j with
   |zero=>simp at hx;subst hx;rw[hto];simp
   |succ j=>simp at hx
  .cases j with
   |zero=>omega
   |succ j=>simp at hx
 obtain⟨d,h1,F,h2⟩:=dI (step:=dY n a0 (List.replicate N (-1))) (λ h v=>BO a0.uses N to h v) (λ d=>∃F,BI a0.uses N to F.length d F) N (λ h v ⟨_,_,_,_,_,hb⟩=>Nat.le_trans hb.hh hb.len) (λ h v hv=>aog (n:=n) (r1:=List.replicate N (-1)) hg hlr (by omega) v hv) n 0
  (((0:Nat):Int),(List.replicate N (-1:Int)).set to 0,[(to:Int)]) ⟨0,[to],rfl,Nat.zero_le _,rfl,hb0⟩ (by omega)
 refine⟨d,F,?_,h2⟩;have hdl:d.length=N:=h2.dl;have h1':iter (dY n a0 (List.replicate N (-1))) n ((0:Int),(List.replicate N (-1:Int)).set to 0,[(to:Int)])=some d:=h1;simp only[jB,hd,hr,af,hlr,aU ht,aW (show to<(List.replicate N (-1:Int)).length by omega),aj,show(((0:Nat):Int)+(to:Int)).toNat=to by omega,h1,h1'];simp[aE,sub,hdl];exact take_of_length_le (Nat.le_of_eq hdl)
def Nr(d:U Int)(l:U Int)(w:Int):Prop:=
 (w= -1/\∀k∈l,d.getD k.toNat 0<0)\/(w∈l/\0<=d.getD w.toNat 0/\∀k∈l,0<=d.getD k.toNat 0->d.getD w.toNat 0<=d.getD k.toNat 0)
theorem Nr.snoc{d l:U Int}{w k:Int}(h:Nr d l w)(hk:0<=k)(hl:∀x∈l,0<=x):Nr d (l++[k]) (if 0<=d.getD k.toNat 0/\(w<0\/d.getD k.toNat 0<d.getD w.toNat 0)then k else w):=by
 split
 .rename_i h1;refine .inr ⟨by simp,h1.1,λz hz h0=>?_⟩;rw[aZ]at hz;rcases hz with hz |hz
  .rcases h with ⟨rfl,h⟩ |⟨hw,hw0,h⟩
   .have:=h z hz;omega
   .have h2:=h z hz h0;have:=hl w hw;rcases h1.2 with h3 |h3<;>omega
  .simp at hz;subst hz;exact Int.le_refl _
 .rename_i h1;rcases h with ⟨rfl,h⟩ |⟨hw,hw0,h⟩
  .refine .inl ⟨rfl,λz hz=>?_⟩;rw[aZ]at hz;rcases hz with hz |hz
   .exact h z hz
   .simp at hz;subst hz;exact Int.not_le.1 λh2=>h1 ⟨h2,.inl (by omega)⟩
  .refine .inr ⟨List.mem_append_left _ hw,hw0,λz hz h0=>?_⟩;rw[aZ]at hz;rcases hz with hz |hz
   .exact h z hz h0
   .simp at hz;subst hz;exact Int.not_lt.1 λh2=>h1 ⟨h0,.inr h2⟩
theorem aoh{n N:Nat}{d l:U Int}(hd:d.length=N)(hl:l.length<=4000000)(hr:∀k∈l,0<=k/\k<(N:Int))(hn:4000001<=n):∃w,iter (iB d l) n ((-1:Int),(0:Int))=some w/\Nr d l w:=by
 refine dI (λ i (v:Int×Int)=>i<=l.length/\v.2=(i:Int)/\Nr d (l.take i) v.1) (λ w=>Nr d l w) l.length (λ k v h=>h.1) ?_ n 0 _ ⟨Nat.zero_le _,rfl,.inl ⟨rfl,by simp⟩⟩ (by omega);rintro i ⟨v3,v4⟩ ⟨hi,rfl,hN⟩;by_cases hlt:i<l.length
 .left;have hk:=hr l[i] (getElem_mem hlt);obtain⟨k,hk2⟩:=Int.eq_ofNat_of_zero_le hk.1;have hkN:k<d.length:=by omega
  have HS:d[k]=d.getD k 0:=by simp[List.getD,hkN]
  have htk:l.take (i+1)=l.take i++[l[i]]:=by rw[List.take_add_one,dQ hlt];rfl
  have hlk:∀x∈l.take i,0<=x:=λx hx=>(hr x (List.mem_of_mem_take hx)).1;have hsn:=hN.snoc hk.1 hlk;refine⟨(if 0<=d.getD (l[i]).toNat 0/\(v3<0\/d.getD (l[i]).toNat 0<d.getD v3.toNat 0)then l[i]else v3,((i+1:Nat):Int)),?_,hlt,rfl,by rw[htk];exact hsn⟩;simp only[iB,show decide ((i:Int)<(l.length:Int))=true from by simp;omega,aj,bf hlt,af,hk2,aU hkN,aW hkN,HS,Int.toNat_natCast,aK i];by_cases h0:0<=d.getD k 0
  .by_cases h1:v3<0
   .simp only[h0,h1,ge_iff_le,decide_true,aj,af,true_and,true_or,if_true]
   .have hv:v3∈l.take i:=by
     rcases hN with ⟨rfl,_⟩ |⟨h,_⟩
     .omega
     .exact h
    have A3:=hr v3 (List.mem_of_mem_take hv);obtain⟨z,hz⟩:=Int.eq_ofNat_of_zero_le A3.1;subst hz;have E7:z<d.length:=(by omega);have hgz:d[z]=d.getD z 0:=(by simp[List.getD,E7]);simp only[h0,ge_iff_le,decide_true,aj,h1,decide_false,ak,aU E7,aW E7,af,hgz,Int.toNat_natCast,true_and,false_or];by_cases h2:d.getD k 0<d.getD z 0
    .simp only[h2,decide_true,aj,if_true,af]
    .simp only[h2,decide_false,ak,if_false,af]
  .simp only[h0,ge_iff_le,decide_false,ak,af,false_and,if_false]
 .right;refine⟨v3,?_,?_⟩
  .simp only[iB,show decide ((i:Int)<(l.length:Int))=false from by simp;omega,ak]
  .rw[take_of_length_le (by omega)]at hN;exact hN
theorem BI.step{us:U (List Int)}{N to h:Nat}{d:U Int}{F:U Nat}(b:BI us N to h d F){x:Nat}(hx:x<N)(hne:x≠to)(h0:0<=d.getD x 0):∃y:Nat,(y:Int)∈us.getD x []/\d.getD y 0=d.getD x 0 -1/\0<=d.getD y 0:=by
 obtain⟨j,hj,hjx⟩:=mem_iff_getElem.1 ((b.mem x hx).1 h0);have hj':F[j]? =some x:=by rw[dQ hj,hjx]
 have hj0:0<j:=by
  cases j with
  |zero=>rw[b.hd.1]at hj';cases hj';exact absurd rfl hne
  |succ j=>exact Nat.succ_pos _
 have⟨p,y,_,h2,h3,h4⟩:=b.pre j x hj' hj0;have hyF:=dw h2;exact⟨y,h3,h4,(b.mem y (b.rg y hyF)).2 hyF⟩
theorem aj7{n N fr:Nat}{a1:U eu}{us:U (List Int)}(hg:Y0 us N)(hd:a1.length=N)(hn:4000003<=n)(hf:fr<N):∃d F c,BI us N fr F.length d F/\jD n fr a1 us=some (a1,us,c)/\c.length<=N+1/\(c=[]->∀k∈us.getD fr [],d.getD k.toNat 0<0):=by
 obtain⟨d,F,hdi,hb⟩:=ab0 (n:=n) (a0:=o9.mk a1 us) hg hd (by omega) hf;have hN:=hg.2.1;have Fi:=hg.1;have hmx:maxLen=9223372036854775807:=rfl;have hloop:∃o,iter (kK n fr a1 us d) n ((fr:Int),([]:U ByteArray))=some o/\∃c,o= .inr (a1,us,c)/\c.length<=N+1/\(c=[]->∀k∈us.getD fr [],d.getD k.toNat 0<0):=by
  refine dI (λ k (v:Int×List ByteArray)=>∃at_:Nat,v.1=(at_:Int)/\at_<N/\v.2.length=k/\k<=N/\((k=0/\at_=fr)\/(0<k/\at_≠fr/\0<=d.getD at_ 0/\d.getD at_ 0+k<=N))) _ N (λ k v ⟨_,_,_,_,h,_⟩=>h) ?_ n 0 _ ⟨fr,rfl,hf,rfl,Nat.zero_le _,.inl ⟨rfl,rfl⟩⟩ (by omega);rintro k ⟨v1,v2⟩ ⟨x,rfl,hx,hv2,hkN,hst⟩;simp only at hv2;have hxa:x<a1.length:=by omega
  have hxu:x<us.length:=by omega
  have hl:=hg.2.2 us[x] (getElem_mem hxu);obtain⟨w,hw,hnr⟩:=aoh (n:=n) (d:=d) (l:=us[x]) hb.dl hl.1 hl.2 (by omega);have hgu:us.getD x []=us[x]:=by simp[List.getD,hxu]
  have hap:bP v2.length v2.length (sub [a1[x].name] 0 1).length 1 16=true:=by simp[bP,sub];omega
  simp only[kK,bf hxa,bf hxu,af,hap,aj,dO,hw];have hsl:(v2++sub [a1[x].name] 0 1).length=k+1:=by simp[sub,hv2]
  have hne:((v2++sub [a1[x].name] 0 1).length==0)=false:=by rw[hsl];simp
  rcases hnr with ⟨rfl,hno⟩ |⟨hwm,hw0,hmin⟩
  .right;refine⟨.inr (a1,us,[]),by simp[aE],[],rfl,by simp,λ_=>?_⟩;rcases hst with ⟨_,rfl⟩ |⟨_,Sa,hx0,_⟩
   .rw[hgu];exact hno
   .have⟨y,hy,_,hy0⟩:=hb.step hx Sa hx0;have hy':(y:Int)∈us[x]:=(by rw[<- hgu];exact hy);have:=hno _ hy';simp only[Int.toNat_natCast]at this;omega
  .have hwr:=hl.2 w hwm;obtain⟨z,rfl⟩:=Int.eq_ofNat_of_zero_le hwr.1;simp only[Int.toNat_natCast]at hw0 hmin;by_cases hzf:z=fr
   .right;subst hzf;refine⟨.inr (a1,us,v2++sub [a1[x].name] 0 1),?_,_,rfl,by omega,λh=>by rw[h]at hsl;simp at hsl⟩;simp only[show decide ((z:Int)<0)=false from by simp,ak,beq_self_eq_true,aj,hne,Bool.not_false,Bool.true_and,aC,Option.map_some]
   .left;have E7:z<N:=(by omega);have hb1:d.getD z 0+((k+1:Nat):Int)<=N:=by
     rcases hst with ⟨hk0,rfl⟩ |⟨_,Sa,hx0,hle⟩
     .have hzF:=(hb.mem z E7).1 hw0;obtain⟨j,hj,hjz⟩:=mem_iff_getElem.1 hzF;have h3:=hb.ub j z (by rw[dQ hj,hjz]);have:=hb.len;omega
     .have⟨y,hy,hyd,hy0⟩:=hb.step hx Sa hx0;have:=hmin y (by rw[<- hgu];exact hy) (by simpa using hy0);simp only[Int.toNat_natCast]at this;omega
    refine⟨((z:Int),v2++sub [a1[x].name] 0 1),?_,z,rfl,E7,hsl,by omega,.inr ⟨Nat.succ_pos _,hzf,hw0,hb1⟩⟩;simp only[show decide ((z:Int)<0)=false from by simp,ak,show((z:Int)==(fr:Int))=false from by simp;omega,aC,aj]
 obtain⟨o,h1,c,rfl,h2⟩:=hloop;refine⟨d,F,c,hb,?_,h2⟩;simp only[jD,hdi,af,h1];simp[aE]
theorem ab1(a b:ByteArray):∃r,nH a b=some r:=by
 simp only[nH,cmp_isNaN_string,af];cases (!a.toList==a.toList)<;>cases (!b.toList==b.toList)<;>cases Vz a b<;>cases (a.toList==b.toList)<;>exact⟨_,rfl⟩
theorem ab2{a b:U ByteArray}(ha:a.length<=5000000)(hn:5000001<=n):∃r,lD n a b=some r:=by
 obtain⟨o,h,_⟩:=dI (step:=lC a b) (λ i (v:Int)=>v=(i:Int)/\i<=a.length) (λ _=>True) a.length (λ k v h=>h.2) (by
  rintro i v ⟨rfl,hi⟩;by_cases hlt:i<a.length
  .simp only[lC,show decide ((i:Int)<(a.length:Int))=true from by simp;omega,aj,bf hlt,af];by_cases hb:i<b.length
   .have⟨r,hr⟩:=ab1 a[i] b[i];simp only[show decide ((i:Int)>=(b.length:Int))=false from by simp;omega,ak,bf hb,af,hr];cases hr0:(r !=(0:Int))with
    |true=>exact .inr ⟨_,rfl,trivial⟩
    |false=>exact .inl ⟨_,rfl,by rw[bL (by omega)],by omega⟩
   .simp only[show decide ((i:Int)>=(b.length:Int))=true from by simp;omega,aj];exact .inr ⟨_,rfl,trivial⟩
  .simp only[lC,show decide ((i:Int)<(a.length:Int))=false from by simp;omega,ak];exact .inr ⟨_,rfl,trivial⟩) n 0 0 ⟨rfl,Nat.zero_le _⟩ (by omega)
 simp only[lD,h];cases o with
 |inl u=>cases u;simp only[eG];cases decide ((a.length:Int)<(b.length:Int))<;>exact⟨_,rfl⟩
 |inr r=>exact⟨r,by simp⟩
def tf(us:U (List Int))(N j:Nat):Prop:=∃d F,BI us N j F.length d F/\∀k∈us.getD j [],d.getD k.toNat 0<0
theorem aev{n N:Nat}{a0:U eu}{us:U (List Int)}(hg:Y0 us N)(hd:a0.length=N)(hn:5000003<=n):∃c,iT n a0 us=some (a0,us,c)/\(c=[]->∀j,j<N->tf us N j)/\c.length<=N+1:=by
 have hN:=hg.2.1
 obtain⟨o,h1,c,rfl,h2⟩:=dI (step:=gP n a0) (λ i (v:Int×List eu×List (List Int)×List ByteArray)=>∃c,v=((i:Int),a0,us,c)/\i<=N/\c.length<=N+1/\(c=[]->∀j,j<i->tf us N j))
  (λ o=>∃c,o=(a0,us,c)/\(c=[]->∀j,j<N->tf us N j)/\c.length<=N+1) N (λ k v ⟨_,_,h,_⟩=>h) (by
  rintro i v ⟨c,rfl,hi,hcl,hc⟩;by_cases hlt:i<N
  .left;obtain⟨d,F,c2,hb,hci,S5,hc2⟩:=aj7 (n:=n) (a1:=a0) hg hd (by omega) hlt;simp only[gP,show decide ((i:Int)<(a0.length:Int))=true from by simp;omega,aj,hci,af,aK i,bX,aC];have hfin:∀c':U ByteArray,c'.length<=N+1->(c'=[]->c=[]/\c2=[])->∃c'',(((i+1:Nat):Int),a0,us,c')=(((i+1:Nat):Int),a0,us,c'')/\i+1<=N/\c''.length<=N+1/\(c''=[]->∀j,j<i+1->tf us N j):=λc' hl' he=>
    ⟨c',rfl,hlt,hl',λe j hj=>by
     have⟨e1,e2⟩:=he e;by_cases h:j=i
     .subst h;exact⟨d,F,hb,hc2 e2⟩
     .exact hc e1 j (by omega)⟩
   obtain⟨r,hr⟩:=ab2 (n:=n) (a:=c2) (b:=c) (by omega) (by omega);cases h0:(c2.length==0)with
   |true=>
    have e2:c2=[]:=List.eq_nil_of_length_eq_zero (by simpa using h0);exact⟨_,by simp only[aj,af],hfin c hcl λe=>⟨e,e2⟩⟩
   |false=>
    have hne:c2≠[]:=λe=>(by rw[e]at h0;simp at h0);simp only[ak,af];have key:∃b,(bif c.length==0 then some true else bif decide ((c2.length:Int)<(c.length:Int))then some true else bif(c2.length:Int)==(c.length:Int)then(lD n c2 c).bind λr2=>some (decide (r2<0))else some false)=some b/\(c.length=0->b=true):=by
     cases h3:(c.length==0)with
     |true=>exact⟨true,rfl,λ_=>rfl⟩
     |false=>
      have hcn:c.length≠0:=(by simpa using h3);simp only[ak,hr,af];cases decide ((c2.length:Int)<(c.length:Int))<;>cases ((c2.length:Int)==(c.length:Int))<;>exact⟨_,rfl,λe=>absurd e hcn⟩
    obtain⟨b,hb1,hb2⟩:=key;rw[hb1];cases b with
    |true=>exact⟨_,by simp only[aj,af],hfin c2 S5 λe=>absurd e hne⟩
    |false=>exact⟨_,by simp only[ak,af],hfin c hcl λe=>by rw[e]at hb2;exact absurd (hb2 rfl) (by simp)⟩
  .right;refine⟨(a0,us,c),?_,c,rfl,λe j hj=>hc e j (by omega),hcl⟩;simp only[gP,show decide ((i:Int)<(a0.length:Int))=false from by simp;omega,ak,aC,aj]) n 0 ((0:Int),a0,us,[]) ⟨[],rfl,Nat.zero_le _,by simp,λ_ j hj=>absurd hj (Nat.not_lt_zero _)⟩ (by omega)
 exact⟨c,by simp[iT,h1,aE],h2⟩
theorem BI.back{us:U (List Int)}{N to:Nat}{d:U Int}{F:U Nat}(b:BI us N to F.length d F){i y:Nat}(hi:i<N)(hy:y<N)(h:(y:Int)∈us.getD i [])(h0:0<=d.getD y 0):0<=d.getD i 0:=by
 obtain⟨j,hj,hjy⟩:=mem_iff_getElem.1 ((b.mem y hy).1 h0);exact b.cl j y hj (by rw[dQ hj,hjy]) i hi h
theorem aoi{us:U (List Int)}{N:Nat}(hg:Y0 us N)(hf:∀j,j<N->tf us N j)(done:Nat->Prop){i0:Nat}(h0:i0<N)(hd0:¬done i0):∃i,i<N/\¬done i/\∀k∈us.getD i [],done k.toNat:=by
 refine uQ λhno=>?_;have hstep:∀i:{i:Nat // i<N/\¬done i},∃k:{k:Nat // k<N/\¬done k},(k.1:Int)∈us.getD i.1 []:=by
  rintro⟨i,hi,hnd⟩;refine uQ λh=>hno ⟨i,hi,hnd,λk hk=>uQ λhkd=>h ?_⟩;have hl:us.getD i []∈us:=by
   have:i<us.length:=(by rw[hg.1];exact hi);simp[List.getD,this]
  have hr:=(hg.2.2 _ hl).2 k hk;exact⟨⟨k.toNat,by omega,hkd⟩,by show(k.toNat:Int)∈_;rw[Int.toNat_of_nonneg hr.1];exact hk⟩
 obtain⟨f,hfs⟩:=Classical.axiomOfChoice hstep
 let g:Nat->{i:Nat // i<N/\¬done i}:=λj=>Nat.rec ⟨i0,h0,hd0⟩ (λ _ x=>f x) j
 have hgs:∀j,((g (j+1)).1:Int)∈us.getD (g j).1 []:=λj=>hfs (g j);have hnd:¬((List.range (N+1)).map λj=>(g j).1).Nodup:=λh=>by
  have:=IE N _ h λy hy=>by
   obtain⟨j,_,rfl⟩:=mem_map.1 hy;exact(g j).2.1
  rw[length_map,List.length_range]at this;omega
 obtain⟨a,b,hab,he⟩:∃a b,a<b/\(g a).1=(g b).1:=by
  refine uQ λh=>hnd ?_;rw[List.nodup_iff_pairwise_ne,List.pairwise_map];exact List.pairwise_lt_range.imp λ{x y} hxy e=>h ⟨x,y,hxy,e⟩
 obtain⟨d,F,hb,hneg⟩:=hf _ (g a).2.1;have hall:∀c,a<b -c->c<b -a->0<=d.getD (g (b -c)).1 0:=by
  intro c
  induction c with
  |zero=>intro _ _;rw[Nat.sub_zero,<- he,hb.hd.2];exact Int.le_refl _
  |succ c ih=>
   intro h1 h2;have:=ih (by omega) (by omega);have e:b -c=b -(c+1)+1:=(by omega);rw[e]at this;exact hb.back (g (b -(c+1))).2.1 (g (b -(c+1)+1)).2.1 (hgs (b -(c+1))) this
 have h1:=hall (b -a -1) (by omega) (by omega);have e:b -(b -a -1)=a+1:=by omega
 rw[e]at h1;have h2:=hneg _ (hgs a);simp only[Int.toNat_natCast]at h2;omega
theorem aew{n N:Nat}{l:U Int}{done:U Bool}(hd:done.length=N)(hl:l.length<=4000000)(hr:∀k∈l,0<=k/\k<(N:Int))(hn:4000001<=n):
 ∃r,ic n l done=some (r,done)/\(r=false↔∀k∈l,done.getD k.toNat false=true):=by
 obtain⟨o,h1,h2⟩:=dI (step:=jC l) (λ i (v:Int×List Bool)=>v=((i:Int),done)/\i<=l.length/\∀k∈l.take i,done.getD k.toNat false=true)
  (λ o=>(o= .inl done/\∀k∈l,done.getD k.toNat false=true)\/∃i:Nat,o= .inr ((i:Int),done)/\∃k∈l,done.getD k.toNat false=false) l.length (λ k v h=>h.2.1) (by
  rintro i v ⟨rfl,hi,hall⟩;by_cases hlt:i<l.length
  .have hk:=hr l[i] (getElem_mem hlt);obtain⟨k,hk2⟩:=Int.eq_ofNat_of_zero_le hk.1;have hkN:k<done.length:=(by omega);have HS:done[k]=done.getD k false:=(by simp[List.getD,hkN]);have htk:l.take (i+1)=l.take i++[l[i]]:=(by rw[List.take_add_one,dQ hlt];rfl);simp only[jC,show decide ((i:Int)<(l.length:Int))=true from by simp;omega,aj,bf hlt,af,aC,hk2,mh,aU hkN,aW hkN,HS];cases hdk:done.getD k false with
   |true=>
    refine .inl ⟨_,by simp only[Bool.not_true,ak];rfl,by rw[bL (by omega)],hlt,λz hz=>?_⟩;rw[htk,aZ]at hz;rcases hz with hz |hz
    .exact hall z hz
    .simp only[aP]at hz;rw[hz,hk2];simpa using hdk
   |false=>exact .inr ⟨_,by simp only[Bool.not_false,aj,Option.map_some],.inr ⟨i,rfl,l[i],getElem_mem hlt,by rw[hk2];simpa using hdk⟩⟩
  .refine .inr ⟨.inl done,?_,.inl ⟨rfl,by rw[take_of_length_le (by omega)]at hall;exact hall⟩⟩;simp only[jC,show decide ((i:Int)<(l.length:Int))=false from by simp;omega,ak,aC,aj]) n 0 ((0:Int),done) ⟨rfl,Nat.zero_le _,by simp⟩ (by omega)
 rcases h2 with ⟨rfl,h2⟩ |⟨i,rfl,k,hk,hkd⟩
 .exact⟨false,by simp[ic,mK,h1],λ_=>h2,λ_=>rfl⟩
 .refine⟨true,by simp[ic,mK,h1],λh=>(by cases h),λh=>?_⟩;rw[h k hk]at hkd;cases hkd
def L0(us:U (List Int))(N:Nat)(done:U Bool)(i:Nat)(w:Int):Prop:=
 (w= -1/\∀j,j<i->¬(done.getD j false=false/\∀k∈us.getD j [],done.getD k.toNat false=true))\/∃j:Nat,w=(j:Int)/\j<i/\done.getD j false=false
theorem al9{n N:Nat}{a0:o9}{done:U Bool}(hg:Y0 a0.uses N)(hd:a0.defs.length=N)(hl:done.length=N)(hn:4000002<=n):∃w,iter (iE n a0) n ((-1:Int),(0:Int),done)=some (w,done)/\L0 a0.uses N done N w:=by
 have hN:=hg.2.1;have Fi:=hg.1;obtain⟨o,h1,w,rfl,h2⟩:=dI (step:=iE n a0) (λ i (v:Int×Int×List Bool)=>∃w,v=(w,(i:Int),done)/\i<=N/\L0 a0.uses N done i w) (λ o=>∃w,o=(w,done)/\L0 a0.uses N done N w) N (λ k v ⟨_,_,h,_⟩=>h) (by
  rintro i v ⟨w,rfl,hi,hw⟩;by_cases hlt:i<N
  .left;have hiu:i<a0.uses.length:=(by omega);have hid:i<a0.defs.length:=(by omega);have hib:i<done.length:=(by omega);have hl2:=hg.2.2 a0.uses[i] (getElem_mem hiu);obtain⟨r,hr1,hr2⟩:=aew (n:=n) hl hl2.1 hl2.2 (by omega);have hgi:a0.uses.getD i []=a0.uses[i]:=(by simp[List.getD,hiu]);have hdi:done[i]=done.getD i false:=(by simp[List.getD,hib]);simp only[iE,show decide ((i:Int)<(a0.uses.length:Int))=true from by simp;omega,aj,bf hiu,af,aC,hr1,aU hib,aW hib,hdi,aK i];have keep:(done.getD i false=true\/r=true)->L0 a0.uses N done (i+1) w:=by
    intro hno;rcases hw with ⟨rfl,hw⟩ |⟨j,rfl,hj,hw⟩
    .refine .inl ⟨rfl,λj hj h=>?_⟩;by_cases e:j=i
     .subst e;rw[hgi]at h;rcases hno with h3 |h3
      .rw[h3]at h;exact absurd h.1 (by simp)
      .have:=hr2.2 h.2;rw[h3]at this;cases this
     .exact hw j (by omega) h
    .exact .inr ⟨j,rfl,by omega,hw⟩
   cases hdn:done.getD i false with
   |true=>exact⟨_,by simp only[Bool.not_true,ak,af],w,rfl,hlt,keep (.inl hdn)⟩
   |false=>
    cases r with
    |true=>exact⟨_,by simp only[Bool.not_false,Bool.not_true,aj,ak,af],w,rfl,hlt,keep (.inr rfl)⟩
    |false=>
     have an:L0 a0.uses N done (i+1) i:= .inr ⟨i,rfl,by omega,hdn⟩;rcases hw with ⟨rfl,hw⟩ |⟨j,rfl,hj,hw⟩
     .exact⟨_,by simp only[Bool.not_false,aj,show decide ((-1:Int)<0)=true from rfl,af],_,rfl,hlt,an⟩
     .have hjd:j<a0.defs.length:=(by omega);simp only[Bool.not_false,aj,show decide ((j:Int)<0)=false from by simp,ak,bf hid,bf hjd,af];cases Vz a0.defs[i].name a0.defs[j].name with
      |true=>exact⟨_,rfl,_,rfl,hlt,an⟩
      |false=>exact⟨_,rfl,_,rfl,hlt,.inr ⟨j,rfl,by omega,hw⟩⟩
  .right;have hiN:i=N:=(by omega);refine⟨(w,done),?_,w,rfl,hiN ▸ hw⟩;simp only[iE,show decide ((i:Int)<(a0.uses.length:Int))=false from by simp;omega,ak,aC,aj]) n 0 ((-1:Int),(0:Int),done) ⟨_,rfl,Nat.zero_le _,.inl ⟨rfl,λj hj=>absurd hj (Nat.not_lt_zero _)⟩⟩ (by omega)
 exact⟨w,h1,h2⟩
theorem ama{n N:Nat}{a0:o9}(hg:Y0 a0.uses N)(hd:a0.defs.length=N)(hf:∀j,j<N->tf a0.uses N j)(hn:4000002<=n):∃l,nI n a0=some l/\l.length=N/\∀k∈l,0<=k/\k<(N:Int):=by
 have hN:=hg.2.1;have hmx:maxLen=9223372036854775807:=rfl
 obtain⟨o,h1,h2⟩:=dI (step:=kD n a0) (λ c (v:Int×List Int×List Bool)=>∃ab done,v=((c:Int),ab,done)/\c<=N/\ab.length=c/\(∀ k∈ab,0<=k/\k<(N:Int))/\done.length=N/\done.count false=N -c)
  (λ o=>o.length=N/\∀k∈o,0<=k/\k<(N:Int)) N (λ k v ⟨_,_,_,h,_⟩=>h) (by
  rintro c v ⟨ab,done,rfl,hc,hol,hor,hdl,hcf⟩;by_cases hlt:c<N
  .left;have⟨w,hw1,hw2⟩:=al9 (n:=n) hg hd hdl hn;have hopen:∃i0,i0<N/\done.getD i0 false=false:=by
    have hm:false∈done:=List.count_pos_iff.1 (by omega);obtain⟨i0,h0,e⟩:=mem_iff_getElem.1 hm;exact⟨i0,by omega,by simp[List.getD,h0,e]⟩
   obtain⟨i0,h0,h0d⟩:=hopen;obtain⟨i,hi,hid,hia⟩:=aoi hg hf (λ j=>done.getD j false=true) h0 (by rw[h0d];simp);rcases hw2 with ⟨rfl,hw2⟩ |⟨j,rfl,hj,hjd⟩
   .exact absurd ⟨Bool.eq_false_iff.2 hid,hia⟩ (hw2 i hi)
   .have hjl:j<done.length:=(by omega);have hap:bP ab.length ab.length (sub [(j:Int)] 0 1).length 1 8=true:=(by simp[bP,sub];omega);have hset:(done.set j true).length=done.length:=(by simp);refine⟨(((c+1:Nat):Int),ab++[(j:Int)],done.set j true),?_,_,_,rfl,hlt,by simp[hol],?_,by simp[hdl],?_⟩
    .simp only[kD,show decide ((c:Int)<(a0.defs.length:Int))=true from by simp;omega,aj,aC,hw1,af,aU hjl,aW hjl,hap,dO,aK c,show(((0:Nat):Int)+(j:Int)).toNat=j by omega,Et hset.symm];simp[sub]
    .intro k hk;rw[aZ]at hk;rcases hk with hk |hk
     .exact hor k hk
     .simp at hk;subst hk;omega
    .have hjf:done[j]=false:=(by simpa[List.getD,hjl]using hjd);rw[List.count_set hjl,hcf,hjf];simp;omega
  .right;have:c=N:=(by omega);refine⟨ab,?_,by omega,hor⟩;simp only[kD,show decide ((c:Int)<(a0.defs.length:Int))=false from by simp;omega,ak,aC,aj]) n 0 ((0:Int),[],List.replicate N false) ⟨[],_,rfl,Nat.zero_le _,rfl,by simp,by simp,by simp⟩ (by omega)
 refine⟨o,?_,h2⟩;have hmk:xE (N:Int) 1=true:=by simp[xE];omega
 simp only[nI,hd,Int.le_refl,decide_true,Bool.true_and,show decide ((0:Int)<=(N:Int))=true from by simp,hmk,aj,Int.toNat_natCast,h1,af,bX,aC];simp[aE]
def pd(ab:U aN)(s:aN):U aN:=
 match ab.getLast? with
 |some q=>bif decide (s.from_<=q.to)then ab.dropLast++[⟨q.from_,max q.to s.to⟩]else ab++[s]
 |none=>[s]
theorem Xb(ab:U aN)(s:aN):(pd ab s).length<=ab.length+1:=by
 unfold pd;cases ab.getLast? with
 |none=>simp
 |some q=>simp only;cases decide (s.from_<=q.to)<;>simp<;>omega
theorem ag1(o:U aN)(q s:aN):pd (o++[q]) s=bif decide (s.from_<=q.to)then o++[⟨q.from_,max q.to s.to⟩]else o++[q]++[s]:=by simp[pd]
abbrev EV(s:aN):Prop:=s.from_<s.to
def i6(l:U aN)(y:Int):Bool:=l.any λs=>decide (s.from_<=y)&&decide (y<s.to)
def Can(l:U aN):Prop:=l.Pairwise (λ a b=>a.to<b.from_)/\∀s∈l,EV s
theorem Ob(l:U aN)(y:Int):i6 l y=true↔∃s∈l,s.from_<=y/\y<s.to:=by simp[i6]
theorem EX(l m:U aN)(y:Int):i6 (l++m) y=(i6 l y || i6 m y):=by simp[i6]
theorem Ka(y:Int):i6 [] y=false:=rfl
theorem oo(s:aN)(l:U aN)(y:Int):i6 (s::l) y=((decide (s.from_<=y)&&decide (y<s.to)) || i6 l y):=by simp[i6]
theorem aex{l m:U aN}(h:l.Perm m)(y:Int):i6 l y=i6 m y:=by
 rw[jZ,Ob,Ob];exact⟨λ ⟨s,hs,h1⟩=>⟨s,h.mem_iff.1 hs,h1⟩,λ⟨s,hs,h1⟩=>⟨s,h.mem_iff.2 hs,h1⟩⟩
theorem aiQ:Can []:=⟨List.Pairwise.nil,by simp⟩
theorem amb{ab:U aN}{s:aN}(hc:Can ab)(hs:EV s)(hb:∀o∈ab,o.from_<=s.from_):
 Can (pd ab s)/\(∀ o∈pd ab s,o.from_<=s.from_)/\∀y,i6 (pd ab s) y=(i6 ab y || i6 [s] y):=by
 rcases List.eq_nil_or_concat ab with rfl |⟨o,q,rfl⟩
 .refine⟨⟨by simp[pd],by simp[pd];exact hs⟩,by simp[pd],λy=>by simp[pd,i6]⟩
 .rw[List.concat_eq_append]at*;obtain⟨h1,h2⟩:=hc;rw[pairwise_append]at h1;obtain⟨p1,_,p3⟩:=h1;have hq:EV q:=h2 q (by simp);have hqs:q.from_<=s.from_:=hb q (by simp);rw[ag1];by_cases hj:s.from_<=q.to
  .simp only[hj,decide_true,aj];refine⟨⟨?_,?_⟩,?_,?_⟩
   .rw[pairwise_append];refine⟨p1,by simp,λa ha b hb'=>?_⟩;rw[aP]at hb';subst hb';exact p3 a ha q (by simp)
   .intro a ha;rcases aZ.1 ha with ha |ha
    .exact h2 a (by simp[ha])
    .rw[aP]at ha;subst ha;show q.from_<max q.to s.to;have:q.from_<q.to:=hq;omega
   .intro a ha;rcases aZ.1 ha with ha |ha
    .exact hb a (by simp[ha])
    .rw[aP]at ha;subst ha;exact hqs
   .intro y;rw[EX,EX,Bool.or_assoc];congr 1;simp only[oo,Ka,Bool.or_false];rw[jZ];simp only[aL,Bool.or_eq_true,aV];have:q.from_<q.to:=hq;have:s.from_<s.to:=hs;omega
  .simp only[hj,decide_false,ak];refine⟨⟨?_,?_⟩,?_,?_⟩
   .rw[pairwise_append];refine⟨?_,by simp,λa ha b hb'=>?_⟩
    .rw[pairwise_append];exact⟨p1,by simp,p3⟩
    .rw[aP]at hb';subst hb';rcases aZ.1 ha with ha |ha
     .have:=p3 a ha q (by simp);have:q.from_<q.to:=hq;omega
     .rw[aP]at ha;subst ha;omega
   .intro a ha;rcases aZ.1 ha with ha |ha
    .exact h2 a ha
    .rw[aP]at ha;subst ha;exact hs
   .intro a ha;rcases aZ.1 ha with ha |ha
    .exact hb a ha
    .rw[aP]at ha;subst ha;exact Int.le_refl _
   .intro y;rw[EX]
theorem Qi:∀(l ab:U aN),Can ab->(∀ s∈l,EV s)->l.Pairwise (λ x y=>x.from_<=y.from_)->(∀ o∈ab,∀s∈l,o.from_<=s.from_)->Can (l.foldl pd ab)/\∀y,i6 (l.foldl pd ab) y=(i6 ab y || i6 l y)
 |[],ab,hc,_,_,_=>⟨hc,λy=>by simp[Ka]⟩
 |s::l,ab,hc,hv,hp,hb=>by
  rw[pairwise_cons]at hp;obtain⟨m1,m2,m3⟩:=amb hc (hv s (by simp)) (λ o ho=>hb o ho s (by simp));obtain⟨f1,f2⟩:=Qi l (pd ab s) m1 (λ t ht=>hv t (by simp[ht])) hp.2 (λ o ho t ht=>Int.le_trans (m2 o ho) (hp.1 t ht));refine⟨f1,λy=>?_⟩;rw[foldl_cons,f2,m3,Bool.or_assoc,<- EX];rfl
theorem aey{a:aN}{l:U aN}(h:Can (a::l)):Can l:=⟨(pairwise_cons.1 h.1).2,λs hs=>h.2 s (by simp[hs])⟩
theorem Kb{a:aN}{l:U aN}(h:Can (a::l)){y:Int}(hy:i6 l y=true):a.to<y:=by
 obtain⟨s,hs,h1,_⟩:=(Ob _ _).1 hy;have:=(pairwise_cons.1 h.1).1 s hs;omega
theorem aaC{a:aN}{l:U aN}(h:Can (a::l)){y:Int}(hy:i6 (a::l) y=true):a.from_<=y:=by
 rw[oo,Bool.or_eq_true]at hy;rcases hy with hy |hy
 .simp only[aL,aV]at hy;exact hy.1
 .have:=Kb h hy;have:a.from_<a.to:=h.2 a (by simp);omega
theorem Xc:∀{l m:U aN},Can l->Can m->(∀ y,i6 l y=i6 m y)->l=m
 |[],[],_,_,_=>rfl
 |[],b::m,_,hm,h=>by
  have:=h b.from_;have hb:b.from_<b.to:=hm.2 b (by simp);rw[Ka,oo]at this;simp[hb]at this
 |a::l,[],hl,_,h=>by
  have:=h a.from_;have ha:a.from_<a.to:=hl.2 a (by simp);rw[Ka,oo]at this;simp[ha]at this
 |a::l,b::m,hl,hm,h=>by
  have ha:a.from_<a.to:=hl.2 a (by simp);have hb:b.from_<b.to:=hm.2 b (by simp);have ina:i6 (a::l) a.from_=true:=by rw[oo];simp[ha]
  have RR:i6 (b::m) b.from_=true:=by rw[oo];simp[hb]
  have e1:a.from_=b.from_:=by
   have h1:=aaC hm (by rw[<- h];exact ina);have h2:=aaC hl (by rw[h];exact RR);omega
  have nl:∀(c:aN)(k:U aN),Can (c::k)->i6 (c::k) c.to=false:=by
   intro c k hk;cases hc:i6 (c::k) c.to with
   |false=>rfl
   |true=>
    rw[oo,Bool.or_eq_true]at hc;rcases hc with hc |hc
    .simp at hc
    .have:=Kb hk hc;omega
  have e2:a.to=b.to:=by
   rcases Int.lt_trichotomy a.to b.to with hlt |he |hlt
   .have h1:=nl a l hl;rw[h,oo]at h1;simp only[Bool.or_eq_false_iff,Bool.and_eq_false_iff,dP]at h1;omega
   .exact he
   .have h1:=nl b m hm;rw[<- h,oo]at h1;simp only[Bool.or_eq_false_iff,Bool.and_eq_false_iff,dP]at h1;omega
  have e:a=b:=by cases a;cases b;simp only at e1 e2;rw[e1,e2]
  subst e;rw[Xc (aey hl) (aey hm) λy=>?_];have hy:=h y;rw[oo,oo]at hy;cases h1:i6 l y with
  |true=>
   have:=Kb hl h1;have z:(decide (a.from_<=y)&&decide (y<a.to))=false:=(by rw[Bool.and_eq_false_iff,dP,dP];omega);rw[z,h1,Bool.false_or,Bool.false_or]at hy;rw[<- hy]
  |false=>
   cases h2:i6 m y with
   |false=>rfl
   |true=>
    have:=Kb hm h2;have z:(decide (a.from_<=y)&&decide (y<a.to))=false:=(by rw[Bool.and_eq_false_iff,dP,dP];omega);rw[z,h1,h2]at hy;simp at hy
def D1(l:U aN):U aN:=(j6 s6 l).foldl pd []
theorem amc{l:U aN}(h:l.Pairwise λx y=>s6 y x=false):l.Pairwise λx y=>x.from_<=y.from_:=
 h.imp λ{x y} hxy=>by simp only[s6,dP]at hxy;omega
theorem aaD{l:U aN}(h:∀s∈l,EV s):Can (D1 l)/\∀y,i6 (D1 l) y=i6 l y:=by
 have hp:=Ey s6 l;obtain⟨h1,h2⟩:=Qi (j6 s6 l) [] aiQ (λ s hs=>h s (hp.mem_iff.1 hs)) (amc (alI Oa l)) (by simp);exact⟨h1,λy=>by rw[D1,h2,Ka,Bool.false_or,aex hp]⟩
theorem aj8{l:U aN}(h:∀s∈l,EV s):(lq s6 l).foldl pd []=D1 l:=by
 have hp:=LB Oa l;obtain⟨h1,h2⟩:=Qi (lq s6 l) [] aiQ (λ s hs=>h s (hp.mem_iff.1 hs)) (amc (Np Oa l)) (by simp);have⟨h3,h4⟩:=aaD h;exact Xc h1 h3 λy=>by rw[h2,Ka,Bool.false_or,aex hp,h4]
theorem aez(l:U aN):(D1 l).length<=l.length:=by
 have:∀(ys ab:U aN),(ys.foldl pd ab).length<=ab.length+ys.length:=by
  intro ys
  induction ys with
  |nil=>intro ab;simp
  |cons y ys ih=>
   intro ab;simp only[foldl_cons,bC];have:=ih (pd ab y);have:=Xb ab y;omega
 have h:=this (j6 s6 l) [];rw[eT]at h;simpa[D1]using h
abbrev eI(r:ax):Bool:=decide (0<=r.x0)&&(decide (r.x0<r.x1)&&(decide (r.x1<=1048576)&&(decide (0<=r.y0)&&(decide (r.y0<r.y1)&&decide (r.y1<=1048576)))))
theorem P0(a b:Bool):(bif a then some b else some false)=some (a&&b):=by cases a<;>rfl
theorem iQ(r:ax):nJ r=some (eI r):=by simp only[nJ,P0]
def jQ(l:U ax)(x:Int):U aN:=(l.filter λr=>decide (r.x0<=x)&&decide (x<r.x1)).map λr=>⟨r.y0,r.y1⟩
def dG(l:U ax)(x:Int):U aN:=D1 (jQ l x)
theorem IG(l:U ax)(x:Int):(jQ l x).length<=l.length:=by simp only[jQ,length_map];exact length_filter_le _ _
theorem y5(l:U ax)(x:Int):(dG l x).length<=l.length:=
 Nat.le_trans (aez _) (IG l x)
theorem aqf{r:ax}(h:eI r=true):r.y0<r.y1:=by simp only[eI,aL,aV]at h;omega
theorem Xd{l:U ax}(h:∀r∈l,eI r=true)(x:Int):∀s∈jQ l x,EV s:=by
 intro s hs;simp only[jQ,mem_map,mem_filter]at hs;obtain⟨r,⟨hr,_⟩,rfl⟩:=hs;exact aqf (h r hr)
theorem Qj{l:U ax}{x:Int}(hl:l.length<1099511627776){n:Nat}(hn:l.length<n):iter (tL l x) n ((0:Int),([]:U aN))=some (jQ l x):=by
 have:=fA (l:=l) (step:=tL l x) (λ i (s:List aN)=>((i:Int),s)) (λ r s=>bif decide (r.x0<=x)&&decide (x<r.x1)then s++[⟨r.y0,r.y1⟩]else s) (λ s=>s) (λ i s=>s.length<=i)
  (λ i hi s hs=>?_) (λ s hs=>by simp[tL]) n hn [] (aD _)
 .rw[show ((0:Nat):Int)=0 from rfl]at this;rw[this];congr 1;have gen:∀(ys:U ax)(s:U aN),ys.foldl (λ s r=>bif decide (r.x0<=x)&&decide (x<r.x1)then s++[⟨r.y0,r.y1⟩]else s) s=s++jQ ys x:=by
   intro ys
   induction ys with
   |nil=>intro s;simp[jQ]
   |cons y ys ih=>
    intro s;simp only[foldl_cons,ih];cases h:(decide (y.x0<=x)&&decide (x<y.x1))with
    |true=>simp[jQ,h]
    |false=>simp[jQ,h]
  simpa using gen l []
 .have hi':decide ((i:Int)<(l.length:Int))=true:=by simpa using hi
  have ap:bP s.length s.length (sub ([(aN.mk l[i].y0 l[i].y1)]:U aN) 0 1).length 1 16=true:=cZ (n:=1);simp only[tL,hi',aj,bf hi,af,P0];cases h:(decide (l[i].x0<=x)&&decide (x<l[i].x1))with
  |true=>
   simp only[aj,ap,dO,aC,af];refine⟨?_,by simp;omega⟩;rw[bL (by omega)];rfl
  |false=>
   simp only[ak,aC,aj,af];exact⟨by rw[bL (by omega)],by omega⟩
theorem Qk(w1 r2:U aN)(hw:w1.length=r2.length)(hl:r2.length<1099511627776)(hn:r2.length<n):iter (tN w1 r2) n ((0:Int),([]:U aN))=some (r2.foldl pd []):=by
 have:=fA (l:=r2) (step:=tN w1 r2) (λ i (s:List aN)=>((i:Int),s)) (λ r s=>pd s r) (λ s=>s) (λ i s=>s.length<=i)
  (λ i hi s hs=>?_) (λ s hs=>by simp[tN,hw]) n hn [] (aD _)
 .rw[show ((0:Nat):Int)=0 from rfl]at this;exact this
 .refine⟨?_,by have:=Xb s r2[i];omega⟩;have hi':decide ((i:Int)<(w1.length:Int))=true:=by simp;omega
  have ib:cN (i:Int) w1.length=true:=aU (by omega);have ap:bP s.length s.length (sub ([r2[i]]:U aN) 0 1).length 1 16=true:=cZ (n:=1);simp only[tN,hi',aj,ib,aW hi,af];rcases List.eq_nil_or_concat s with rfl |⟨s0,q,HK⟩
  .have d0:decide (((([]:U aN).length:Nat):Int)>0)=false:=(by simp);simp only[d0,ak,af,ap,aj,dO,aC];rw[bL (by omega)];rfl
  .rw[List.concat_eq_append]at HK;subst HK;have d0:decide (((((s0++[q]).length:Nat):Int))>0)=true:=(by simp<;>omega);have A0:(s0++[q]).length=s0.length+1:=(by simp);have wp:i64.wrap ((((s0++[q]).length:Nat):Int) -1)=(s0.length:Int):=(by rw[mV (by simp) (by omega),A0];rfl);have RW:cN (s0.length:Int) (s0++[q]).length=true:=aU (by omega);have g:bo (s0++[q]) (((0:Nat):Int)+(s0.length:Int))=some q:=(by rw[Es];simp);have z:(((0:Nat):Int)+(s0.length:Int)).toNat=s0.length:=(by simp);have st:(s0++[q]).set s0.length (aN.mk q.from_ (max q.to r2[i].to))=s0++[⟨q.from_,max q.to r2[i].to⟩]:=(by simp);have m:pd (s0++[q]) r2[i]=bif decide (r2[i].from_<=q.to)then s0++[⟨q.from_,max q.to r2[i].to⟩]else s0++[q]++[r2[i]]:=(by simp[pd]);simp only[d0,aj,wp,RW,g,af,m,z,st];cases decide (r2[i].from_<=q.to)with
   |true=>
    have e:aE (s0++[q]).length (s0++[(⟨q.from_,max q.to r2[i].to⟩:aN)]).length=true:=(by simp);simp only[aj,e,af,aC];rw[bL (by omega)]
   |false=>
    simp only[ak,ap,aj,dO,aC,af];rw[bL (by omega)];rfl
theorem ab4{l:U ax}{x:Int}(hv:∀r∈l,eI r=true)(hl:l.length<1099511627776)(hn:l.length<n):JZ n l x=some (dG l x):=by
 have h1:=IG l x;have h2:(lq s6 (jQ l x)).length=(jQ l x).length:=xI Oa _;unfold JZ;simp only[length_nil,aC,aj,Qj (x:=x) (l:=l) (by omega) (n:=n) (by omega),af];rw[Ko (λ a b=>if a.from_<b.from_ then -1 else if b.from_<a.from_ then 1 else 0) (λ a b=>by show xL a b=_;unfold xL;rw[kC];rfl) (λ a b=>by
  by_cases h1:a.from_<b.from_
  .simp[h1]
  .by_cases h2:b.from_<a.from_<;>simp[h1,h2]) (by omega) (by omega)]
 simp only[af];rw[Qk _ _ h2.symm (by omega) (by omega)];simp only[af,bX,aC,aj];rw[aj8 (Xd hv x)];rfl
def gU(l:U ax):U Int:=Gk (l.flatMap λr=>[r.x0,r.x1])
def iZ{α:Type}(f:Int->Int->α):U Int->U α
 |a::b::l=>f a b::iZ f (b::l)
 |_=>[]
def bD(l:U ax):U bZ:=iZ (λ a b=>⟨a,b,dG l a⟩) (gU l)
theorem rT{α:Type}(f:Int->Int->α):∀(l:U Int),(iZ f l).length=l.length -1/\∀i (h:i+1<l.length) (h':i<(iZ f l).length),(iZ f l)[i]=f l[i] l[i+1]
 |[]=>⟨rfl,λi h=>by simp at h⟩
 |[a]=>⟨rfl,λi h=>by simp at h⟩
 |a::b::l=>by
  have⟨h1,h2⟩:=rT f (b::l);refine⟨by simp only[iZ,bC,h1];simp,λi h h'=>?_⟩;cases i with
  |zero=>rfl
  |succ i=>
   simp only[iZ,List.getElem_cons_succ];exact h2 i (by simpa using h) _
theorem wP(l:U ax):(l.flatMap λr=>[r.x0,r.x1]).length=2*l.length:=by
 induction l with
 |nil=>rfl
 |cons x l ih=>simp only[List.flatMap_cons,dM,ih,bC,length_nil];omega
theorem rC(l:U Int):(gF l).length<=l.length:=by
 match l with
 |[]=>simp[gF]
 |[x]=>simp[gF]
 |x::y::l=>
  have:=rC (y::l);simp only[gF];cases x==y<;>simp at* <;>omega
theorem Lb(l:U ax):(gU l).length<=2*l.length:=by
 have h:=rC (j6 (λ a b=>decide (a<b)) (l.flatMap λr=>[r.x0,r.x1]));rw[eT,wP]at h;exact h
theorem Ql{l:U ax}(hl:l.length<10995116277)(hn:l.length<n):iter (tO l) n ((0:Int),([]:U Int))=some (l.flatMap λr=>[r.x0,r.x1]):=by
 have:=fA (l:=l) (step:=tO l) (λ i (s:List Int)=>((i:Int),s)) (λ r s=>s++[r.x0,r.x1]) (λ s=>s) (λ i s=>s.length<=2*i)
  (λ i hi s hs=>?_) (λ s hs=>by simp[tO]) n hn [] (aD _)
 .rw[show ((0:Nat):Int)=0 from rfl]at this;rw[this];have gen:∀(ys:U ax)(s:U Int),ys.foldl (λ s r=>s++[r.x0,r.x1]) s=s++ys.flatMap λr=>[r.x0,r.x1]:=by
   intro ys
   induction ys with
   |nil=>intro s;simp
   |cons y ys ih=>intro s;simp[ih]
  congr 1;simpa using gen l []
 .have hi':decide ((i:Int)<(l.length:Int))=true:=by simpa using hi
  have ap:bP s.length s.length (sub ([l[i].x0,l[i].x1]:U Int) 0 2).length 2 8=true:=cZ (n:=2);simp only[tO,hi',aj,aU hi,aW hi,af,ap,dO,aC];refine⟨?_,by simp;omega⟩;rw[bL (by omega)];rfl
theorem xY{ls:U (List ax)}(hv:∀r∈ls.flatten,eI r=true)(hl:ls.flatten.length<10995116277)(hls:ls.length<1099511627776)(hn:2*ls.flatten.length<n)(hn2:ls.length<n):oD n ls=some (bD ls.flatten):=by
 unfold oD;rw[N9 (by omega) hls hn2];generalize ls.flatten=l at*;have he:=Lb l;simp only[af,length_nil,aC,aj,Ql (l:=l) (n:=n) (by omega) (by omega)];rw[pI (by rw[wP];omega) (by rw[wP];omega)];simp only[af,eT,aC,aj];rw[uy (by rw[eT,wP];omega) (by rw[eT,wP];omega)];simp only[af];have hE:gF (j6 ot (l.flatMap λr=>[r.x0,r.x1]))=gU l:=rfl;rw[hE];obtain⟨p1,p2⟩:=rT (λ a b=>(⟨a,b,dG l a⟩:bZ)) (gU l);have key:iter (tQ n l ((),gU l)) n ((1:Int),([]:U bZ))=some (bD l):=by
  have:=mJ (step:=tQ n l ((),gU l)) (λ i=>(((i+1:Nat):Int),(bD l).take i)) (bD l).length (bD l) (λ i hi=>?_) ?_ n (by unfold bD;omega)
  .simpa using this
  .have hi2:i+1<(gU l).length:=(by unfold bD at hi;omega);have d:decide (((i+1:Nat):Int)<(((gU l).length:Nat):Int))=true:=(by simp;omega);have wp:i64.wrap (((i+1:Nat):Int) -1)=(i:Int):=(by rw[mV (by omega) (by omega)];rfl);have ap:bP ((bD l).take i).length ((bD l).take i).length (sub ([(bZ.mk ((gU l)[i]'(by omega)) (gU l)[i+1] (dG l ((gU l)[i]'(by omega))))]:U bZ) 0 1).length 1 40=true:=by
    refine cZ (n:=1) ?_ ?_
    .rw[length_take];unfold bD;omega
    .rw[length_take];unfold bD;simp only[maxLen];omega
   have tk:(bD l).take (i+1)=(bD l).take i++[⟨(gU l)[i]'(by omega),(gU l)[i+1],dG l ((gU l)[i]'(by omega))⟩]:=by
    rw[iJ hi];congr 2;exact p2 i hi2 hi
   simp only[tQ,d,aj,wp,aU (show i<(gU l).length by omega),aW (show i<(gU l).length by omega),af,aU hi2,aW hi2,bX,aC,ab4 (l:=l) (n:=n) hv (by omega) (by omega),ap,dO];rw[bL (by omega),tk];rfl
  .have d:decide ((((bD l).length+1:Nat):Int)<(((gU l).length:Nat):Int))=false:=(by unfold bD;simp;omega);simp only[tQ,d,ak,List.take_length,aC,aj]
 rw[key];simp only[af,bX,aC,aj]
def EY(x0 x1:Int)(c:U aN):U ax:=c.map λq=>⟨x0,q.from_,x1,q.to⟩
def DS(x0 x1:Int)(c:U aN):U bZ->U ax
 |[]=>EY x0 x1 c
 |s::l=>if s.column=c then DS x0 s.x1 c l else EY x0 x1 c++DS s.x0 s.x1 s.column l
def nR:U bZ->U ax
 |[]=>[]
 |s::l=>DS s.x0 s.x1 s.column l
theorem aaE(x0:Int)(c:U aN):∀(l:U bZ)(x1:Int)(k:Nat)(hk:k<=l.length),(∀ j (hj:j<k),(l[j]'(by omega)).column=c)->(∀ h:k<l.length,l[k].column≠c)->
 DS x0 x1 c l=EY x0 (if h:0<k then(l[k -1]'(by omega)).x1 else x1) c++nR (l.drop k)
 |l,x1,0,_,_,h2=>by
  cases l with
  |nil=>simp[DS,nR]
  |cons s l=>
   have:=h2 (by simp);simp only[List.getElem_cons_zero]at this;simp[DS,nR,this]
 |[],x1,k+1,hk,_,_=>by simp at hk
 |s::l,x1,k+1,hk,h1,h2=>by
  have e0:=h1 0 (by omega);simp only[List.getElem_cons_zero]at e0;simp only[DS,e0,if_true];rw[aaE x0 c l s.x1 k (by simpa using hk) (λ j hj=>by have:=h1 (j+1) (by omega);simpa using this) (λ h=>by have:=h2 (by simpa using h);simpa using this)];simp only[List.drop_succ_cons];congr 2;by_cases hk0:0<k
  .simp only[hk0,dite_true,Nat.zero_lt_succ,Nat.add_sub_cancel];obtain⟨m,rfl⟩:∃m,k=m+1:=⟨k -1,by omega⟩;simp
  .have:k=0:=(by omega);subst this;simp
theorem SV{l:U bZ}{i k:Nat}(hi:i<l.length)(hk1:0<k)(hk:k<=l.length)(hl:l.length<10995116277)(x3:bZ)(ab:U ax)(ho:ab.length<1099511627776)(hc:x3.column.length<1099511627776)(hn:x3.column.length<n):
 iter (wE l (i:Int) (k:Int) x3) n ((0:Int),ab)=some (ab++EY l[i].x0 (l[k -1]'(by omega)).x1 x3.column):=by
 have:=fA (l:=x3.column) (step:=wE l (i:Int) (k:Int) x3) (λ j (s:List ax)=>((j:Int),s)) (λ q s=>s++[⟨l[i].x0,q.from_,(l[k -1]'(by omega)).x1,q.to⟩]) (λ s=>s) (λ j s=>s.length<=ab.length+j)
  (λ j hj s hs=>?_) (λ s hs=>by simp[wE]) n hn ab (aD _)
 .rw[show ((0:Nat):Int)=0 from rfl]at this;rw[this];have gen:∀(ys:U aN)(s:U ax),ys.foldl (λ s q=>s++[⟨l[i].x0,q.from_,(l[k -1]'(by omega)).x1,q.to⟩]) s=s++EY l[i].x0 (l[k -1]'(by omega)).x1 ys:=by
   intro ys
   induction ys with
   |nil=>intro s;simp[EY]
   |cons y ys ih=>intro s;simp only[foldl_cons,ih];simp[EY]
  rw[gen]
 .have hj':decide ((j:Int)<(x3.column.length:Int))=true:=by simpa using hj
  have wp:i64.wrap ((k:Int) -1)=((k -1:Nat):Int):=mV hk1 (by omega);have ap:bP s.length s.length (sub ([(ax.mk l[i].x0 (x3.column[j]).from_ (l[k -1]'(by omega)).x1 (x3.column[j]).to)]:U ax) 0 1).length 1 32=true:=cZ (n:=1);simp only[wE,hj',aj,bf hj,bf hi,wp,bf (show k -1<l.length by omega),af,ap,dO,aC];refine⟨?_,by simp;omega⟩;rw[bL (by omega)];rfl
theorem R8{l:U bZ}{b:Nat}(hb:b<=100000)(hl:l.length<=100000)(hc:∀s∈l,s.column.length<=b)(hn:b<n)(hn2:l.length<n):Iu n l=some (nR l):=by
 unfold Iu;simp only[length_nil,aC,aj];have main:∀(m i:Nat)(ab:U ax)(k:Nat),i+m=l.length->m<k->ab.length<=i*b->iter (wF n l) k ((i:Int),ab)=some (ab++nR (l.drop i)):=by
  intro m
  induction m using Nat.strongRecOn with
  |ind m ih=>
   intro i ab k him hk ho;obtain⟨k,rfl⟩:∃j,k=j+1:=⟨k -1,by omega⟩;by_cases hm:m=0
   .subst hm;have:i=l.length:=(by omega);subst this;refine fD ?_;simp[wF,nR]
   .have hi:i<l.length:=(by omega);have di:decide ((i:Int)<(l.length:Int))=true:=(by simpa using hi);obtain⟨q,hq1,hq2,hq3,hq4⟩:∃q,i<q/\q<=l.length/\(∀ j,i<j->j<q->∀h:j<l.length,l[j].column=l[i].column)/\(∀ h:q<l.length,l[q].column≠l[i].column):=by
     rcases K7 (λ j=>if h:j<l.length then decide (l[j].column≠l[i].column)else false) (i+1) l.length with ⟨q,h1,h2,h3,h4⟩ |h
     .simp only[h2,dite_true,aV]at h3;refine⟨q,by omega,by omega,λj hj1 hj2 hj=>?_,λ_=>h3⟩;have:=h4 j (by omega) hj2;simp only[hj,dite_true,dP,ne_eq,Decidable.not_not]at this;exact this
     .refine⟨l.length,hi,aD _,λj hj1 hj2 hj=>?_,λh=>by omega⟩;have:=h j (by omega) hj;simp only[hj,dite_true,dP,ne_eq,Decidable.not_not]at this;exact this
    have cl:∀j (hj:j<l.length),l[j].column.length<=b:=λj hj=>hc _ (getElem_mem hj);have r2:iter (sF n l (i:Int)) n (i64.wrap ((i:Int)+1))=some (q:Int):=by
     rw[bL (by omega)];have:=mJ (step:=sF n l (i:Int)) (λ j=>((i+1+j:Nat):Int)) (q -(i+1)) (q:Int) (λ j hj=>?_) ?_ n (by omega)
     .simpa using this
     .have hjl:i+1+j<l.length:=(by omega);have dj:decide (((i+1+j:Nat):Int)<(l.length:Int))=true:=(by simp;omega);have hcc:=cl (i+1+j) hjl;simp only[sF,dj,aj,bf hjl,bf hi,af];rw[Dc (by omega) (by omega),hq3 (i+1+j) (by omega) (by omega) hjl];simp only[decide_true,af,aj];rw[bL (by omega)];rfl
     .rw[show i+1+(q -(i+1))=q by omega];by_cases y4:q<l.length
      .have dj:decide ((q:Int)<(l.length:Int))=true:=(by simpa using y4);have hcc:=cl q y4;simp only[sF,dj,aj,bf y4,bf hi,af];rw[Dc (by omega) (by omega)];simp[hq4 y4]
      .have dj:decide ((q:Int)<(l.length:Int))=false:=(by simp;omega);simp only[sF,dj,ak,af]
    have ob:i*b<=100000*100000:=Nat.mul_le_mul (by omega) hb;have hci:=cl i hi;have r3:=SV (n:=n) hi (show 0<q by omega) hq2 (by omega) l[i] ab (by omega) (by omega) (by omega);have step:wF n l ((i:Int),ab)=some (.inl ((q:Int),ab++EY l[i].x0 (l[q -1]'(by omega)).x1 l[i].column)):=(by simp only[wF,di,aj,r2,bf hi,af,aC,r3]);rw[gY step,ih (l.length -q) (by omega) q _ k (by omega) (by omega) (by
     rw[dM,EY,length_map];have:(i+1)*b<=q*b:=Nat.mul_le_mul_right _ (by omega);rw[Nat.add_mul]at this;omega)]
    rw[aM];congr 2
    conv=>rhs;rw[List.drop_eq_getElem_cons hi]
    simp only[nR];rw[aaE l[i].x0 l[i].column (l.drop (i+1)) l[i].x1 (q -(i+1)) (by rw[length_drop];omega) (λ j hj=>by
     rw[getElem_drop];exact hq3 _ (by omega) (by omega) (by omega)) (λ h=>by
     rw[length_drop]at h;rw[getElem_drop];have:=hq4 (by omega);have hqq:i+1+(q -(i+1))=q:=(by omega);simp only[hqq];exact this)]
    rw[List.drop_drop,show i+1+(q -(i+1))=q by omega];congr 2;by_cases h0:0<q -(i+1)
    .simp only[h0,dite_true,getElem_drop];congr 2;omega
    .simp only[h0,dite_false];have:q -1=i:=(by omega);congr 2
 have:=main l.length 0 [] n (by omega) (by omega) (by simp);simp only[Int.natCast_zero,bT,List.drop_zero]at this;rw[this];simp
def sd(l:U ax):U ax×Int:=
 if l.all eI then(if l.length>400 then([],6)else if (nR (bD l)).length>200 then([],6)else(nR (bD l),0))else([],1)
def c7(l:U ax):Bool:=decide ((sd l).2=0)&&decide ((sd l).1=l)
theorem aeA{l:U ax}{s:bZ}(h:s∈bD l):s.column.length<=l.length:=by
 obtain⟨i,hi,rfl⟩:=List.getElem_of_mem h;obtain⟨p1,p2⟩:=rT (λ a b=>(⟨a,b,dG l a⟩:bZ)) (gU l);have:(bD l)[i]=⟨(gU l)[i]'(by unfold bD at hi;omega),(gU l)[i+1]'(by unfold bD at hi;omega),dG l ((gU l)[i]'(by unfold bD at hi;omega))⟩:=p2 i (by unfold bD at hi;omega) hi;rw[this];exact y5 l _
theorem uz(l:U ax):(bD l).length<=2*l.length:=by
 obtain⟨p1,_⟩:=rT (λ a b=>(⟨a,b,dG l a⟩:bZ)) (gU l);have:=Lb l;unfold bD;omega
theorem amd{l:U ax}(hl:l.length<1099511627776)(hl2:l.length<n)(hn:1000<=n):ON n l=some (sd l):=by
 unfold ON;have h1:=rZ (l:=l) (step:=NN l) (λ i=>(i:Int)) (λ r=>!eI r) () (λ _=>(([]:U ax),(1:Int))) (λ i hi=>?_) ?_ n (by omega)
 .rw[show ((0:Nat):Int)=0 from rfl]at h1;rw[h1];have h2:=pV (λ r=>!eI r) l;cases hf:nX (λ r=>!eI r) l with
  |some i=>
   rw[hf]at h2;have:l.all eI=false:=by
    rw[<- Bool.not_eq_true,all_eq_true];intro hall;have h3:=h2.symm;simp only[Option.isSome_some,any_eq_true]at h3;obtain⟨x,hx,hx2⟩:=h3;rw[hall x hx]at hx2;cases hx2
   simp[sd,this]
  |none=>
   rw[hf]at h2;have:l.all eI=true:=by
    rw[all_eq_true];intro x hx;cases h:eI x with
    |true=>rfl
    |false=>
     have:l.any (λ r=>!eI r)=true:=any_eq_true.2 ⟨x,hx,by rw[h];rfl⟩;rw[this]at h2;cases h2
   have hv:∀r∈l,eI r=true:=all_eq_true.1 this;by_cases xp:l.length>400
   .have d4:decide ((l.length:Int)>400)=true:=(by simp;omega);simp only[eG,d4,aj,sd,this,if_true,aX xp]
   have d4:decide ((l.length:Int)>400)=false:=(by simp;omega);have ls:=uz l;simp only[eG,d4,ak];have fl:[l].flatten=l:=(by simp);rw[show (sub ([l]:U (List ax)) 0 1)=[l]from rfl,xY (ls:=[l]) (by rw[fl];exact hv) (by rw[fl];omega) (by simp) (by rw[fl];omega) (by simp;omega),fl];simp only[length_singleton,aC,aj,af,bX];rw[R8 (b:=400) (by omega) (by omega) (λ s hs=>Nat.le_trans (aeA hs) (by omega)) (by omega) (by omega)];simp only[af,bX,aC,aj,yT,sd,this,if_true,aS xp];by_cases rb:(nR (bD l)).length>200
   .have:decide (((nR (bD l)).length:Int)>200)=true:=(by simp;omega);simp only[this,aj,af,rb,if_true]
   .have:decide (((nR (bD l)).length:Int)>200)=false:=(by simp;omega);simp only[this,ak,af,rb,if_false]
 .have hi':decide ((i:Int)<(l.length:Int))=true:=by simpa using hi
  simp only[NN,hi',aj,bf hi,af,iQ];cases eI l[i]with
  |false=>rfl
  |true=>simp only[Bool.not_true,ak];rw[bL (by omega)]
 .simp[NN]
theorem lY{l:U ax}(hl:l.length<1099511627776)(hl2:l.length<n)(hn:1000<=n):nZ n l=some (c7 l):=by
 unfold nZ c7;rw[amd hl hl2 hn];simp only[af];by_cases h:(sd l).2=0
 .have e:((sd l).2==0)=true:=by simp[h]
  have lo:(sd l).1.length<=200:=by
   unfold sd;split
   .split
    .simp
    .split
     .simp
     .simp;omega
   .simp
  by_cases hlen:(sd l).1.length<n
  .simp only[e,aj,h,decide_true,Bool.true_and];rw[Db (by omega) hlen];rfl
  .have:(sd l).1.length≠l.length:=(by omega);have hne:(sd l).1≠l:=λe=>this (by rw[e]);simp only[e,aj,h,decide_true,Bool.true_and];unfold oF;have hb:(((sd l).1.length:Int) !=(l.length:Int))=true:=(by simp;omega);rw[hb];simp[hne]
 .have e:((sd l).2==0)=false:=by simp[h]
  simp[e,h]
theorem Oc{α:Type}(c:Bool)(a b:α):(bif c then some a else some b)=some (bif c then a else b):=by cases c<;>rfl
theorem aaF(i n:Nat):Int.tmod (i:Int) (n:Int)=((i%n:Nat):Int):=by rw[Int.tmod_eq_emod_of_nonneg (by omega)];omega
theorem bJ{i n:Nat}(h:i<n):decide ((i:Int)<(n:Int))=true:=by simpa using h
theorem bU(n:Nat):decide ((n:Int)<(n:Int))=false:=by simp
theorem ab5{k b:Nat}(h:k*b<=140737488355328)(h2:k<=maxLen):xE (k:Int) b=true:=by
 have e:((k:Int)).toNat=k:=by omega
 simp only[xE,aL,aV,e];exact⟨⟨by omega,h⟩,h2⟩
def pS(p:U bV)(i:Nat):bV:=p.getD i ⟨0,0⟩
def ja(p:U bV)(i:Nat):jr:=⟨(pS p i).x,(pS p i).y,(pS p ((i+1)%p.length)).x,(pS p ((i+1)%p.length)).y⟩
def gm(p:U bV):U jr:=(List.range p.length).map (ja p)
theorem UH{p:U bV}{i:Nat}(h:i<p.length):pS p i=p[i]:=by simp[pS,h]
theorem dZ(p:U bV):(gm p).length=p.length:=by simp[gm]
theorem y7{p:U bV}{i:Nat}(h:i<(gm p).length):(gm p)[i]=ja p i:=by simp[gm]
theorem ame{α:Type}(A B:U α)(z x:α):(A++z::B).set A.length x=A++x::B:=by rw[List.set_append_right _ _ (aD _),Nat.sub_self];rfl
theorem AL{p:U bV}(hl:p.length<=100000)(hn:p.length<n):pq n p=some (gm p):=by
 unfold pq;have mk:xE (p.length:Int) 32=true:=ab5 (by omega) (by show p.length<=2 ^ 63 -1;omega);have main:=mJ (step:=oM p) (λ i=>((i:Int),(List.range i).map (ja p)++List.replicate (p.length -i) (jr.mk 0 0 0 0))) p.length (gm p) (λ i hi=>?_) ?_ n hn
 .have z:((p.length:Int)).toNat=p.length:=by omega
  simp only[List.range_zero,List.map_nil,bT,Nat.sub_zero]at main;have d1:decide ((p.length:Int)<=(p.length:Int))=true:=by simp
  have d2:decide ((0:Int)<=(p.length:Int))=true:=by simp
  rw[mk,d1,d2,z];simp only[Bool.and_self,aj];rw[show ((0:Nat):Int)=0 from rfl]at main;rw[main];simp only[af];have e:sub (gm p) 0 p.length=gm p:=by rw[<- dZ p];exact bX _
  rw[e,dZ];simp
 .have nz:((p.length:Int) !=0)=true:=by simp;intro h;rw[h]at hi;simp at hi
  have md:(i+1)%p.length<p.length:=Nat.mod_lt _ (by omega);have w:i64.wrap ((i:Int)+1)=((i+1:Nat):Int):=bL (by omega);have z:((p.length:Int)).toNat=p.length:=by omega
  have rp:List.replicate (p.length -i) (jr.mk 0 0 0 0)=jr.mk 0 0 0 0::List.replicate (p.length -(i+1)) (jr.mk 0 0 0 0):=by rw[show p.length -i=(p.length -(i+1))+1 by omega,List.replicate_succ]
  have la:((List.range i).map (ja p)).length=i:=by simp
  have g:bo ((List.range i).map (ja p)++List.replicate (p.length -i) (jr.mk 0 0 0 0)) (((0:Nat):Int)+(i:Int))=some (jr.mk 0 0 0 0):=by rw[Es,jw (by omega),la,rp,Nat.sub_self];rfl
  have z2:(((0:Nat):Int)+(i:Int)).toNat=i:=by omega
  have st:((List.range i).map (ja p)++List.replicate (p.length -i) (jr.mk 0 0 0 0)).set i (ja p i)=(List.range (i+1)).map (ja p)++List.replicate (p.length -(i+1)) (jr.mk 0 0 0 0):=by
   rw[rp];have:=ame ((List.range i).map (ja p)) (List.replicate (p.length -(i+1)) (jr.mk 0 0 0 0)) (jr.mk 0 0 0 0) (ja p i);rw[la]at this;rw[this,List.range_succ,map_append,aM];rfl
  simp only[oM,bJ hi,aj,bf hi,af,nz,w,aaF,bf md,z,aU hi,g,z2];rw[<- UH hi,<- UH md];rw[show jr.mk (pS p i).x (pS p i).y (pS p ((i+1)%p.length)).x (pS p ((i+1)%p.length)).y=ja p i from rfl,st]
 .simp only[oM,bU,ak,Nat.sub_self,List.replicate_zero,append_nil];rfl
def UI(a:bV):Bool:=decide (0<=a.x)&&(decide (a.x<=1048576)&&(decide (0<=a.y)&&decide (a.y<=1048576)))
def ue(s:jr):Bool:=s.l4==s.mw
def PT(s t:jr):Bool:=decide (max (min s.l4 s.mw) (min t.l4 t.mw)<=min (max s.l4 s.mw) (max t.l4 t.mw))&&decide (max (min s.pN s.ua) (min t.pN t.ua)<=min (max s.pN s.ua) (max t.pN t.ua))
def UJ(a b:bV):Bool:=decide (a.x<b.x) || (a.x==b.x&&decide (a.y<b.y))
theorem Od(a:bV):tH a=some (UI a):=by simp only[tH,P0,UI]
theorem Df(s t:jr):lF s t=some (PT s t):=by simp only[lF,P0,PT]
theorem ng(s:jr):gH s=some (ue s):=rfl
theorem Xe(a b:Int)(hn:3<=n):rJ n [a,b]=some (if a=0 then b else a):=by
 obtain⟨m,rfl⟩:∃m,n=m+3:=⟨n -3,by omega⟩;have w1:i64.wrap ((0:Int)+1)=1:=by decide
 have w2:i64.wrap ((1:Int)+1)=2:=by decide
 by_cases ha:a=0
 .by_cases hb:b=0
  .subst ha;subst hb;simp only[rJ,CR,vI,w1,w2];rfl
  .have hb':(b !=0)=true:=(by simpa using hb);subst ha;simp only[rJ,CR,vI,w1];simp[bo,hb',dF]
 .have ha':(a !=0)=true:=by simpa using ha
  simp only[rJ,CR,vI];simp[bo,ha',dF,ha]
theorem LJ(a b:bV)(hn:3<=n):∃r,q8 n a b=some r/\decide (r>=0)=!UJ a b:=by
 unfold q8;rw[kC,kC];simp only[af];rw[show ∀u v:Int,sub [u,v] 0 2=[u,v]from λ_ _=>rfl,Xe _ _ hn];refine⟨_,rfl,?_⟩;unfold UJ;by_cases h1:a.x<b.x
 .simp[h1]
 .by_cases h2:b.x<a.x
  .have h3:¬a.x=b.x:=(by omega);simp[h1,h2,h3]
  .have h3:a.x=b.x:=(by omega);by_cases h4:a.y<b.y
   .simp[h3,h4]
   .by_cases h5:b.y<a.y<;>simp[h3,h4,h5]
def Jx(p:U bV)(i:Nat):Bool:=
 (!UI (pS p i) || ((((ja p i).l4==(ja p i).mw)==((ja p i).pN==(ja p i).ua)) || (ue (ja p i)==ue (ja p ((i+1)%p.length))))) || (decide (0<i)&&!UJ (pS p 0) (pS p i))
def SY(p:U bV)(i k:Nat):Bool:=decide (i+p.length -k>1)&&PT (ja p i) (ja p k)
def Qm(p:U bV):Bool:=
 decide (4<=p.length)&&(decide (p.length<=60)&&(!((List.range p.length).any (Jx p))&&(!((List.range p.length).any λi=>(List.range p.length).any λk=>decide (i+2<=k)&&SY p i k)&&!ue (ja p 0))))
def ag4(l:U ax)(x y:Int):Bool:=l.any λr=>(decide (r.x0<=x)&&decide (x<r.x1))&&(decide (r.y0<=y)&&decide (y<r.y1))
theorem aeB(l:U ax)(x y:Int):i6 (jQ l x) y=ag4 l x y:=by
 induction l with
 |nil=>rfl
 |cons r l ih=>
  unfold jQ ag4 at*;rw[List.filter_cons,List.any_cons,<- ih];cases h:(decide (r.x0<=x)&&decide (x<r.x1))with
  |true=>simp only[if_true,aF,Bool.true_and];rw[oo]
  |false=>simp
theorem Oe{l:U ax}(h:∀r∈l,eI r=true)(x:Int):Can (dG l x)/\∀y,i6 (dG l x) y=ag4 l x y:=by
 have⟨h1,h2⟩:=aaD (Xd h x);exact⟨h1,λy=>by rw[dG,h2,aeB]⟩
def Xf:U bZ->Prop
 |[]=>True
 |[s]=>s.x0<s.x1
 |s::t::l=>s.x0<s.x1/\s.x1=t.x0/\Xf (t::l)
def II:U bZ->Int->U aN
 |[],_=>[]
 |s::l,x=>bif decide (s.x0<=x)&&decide (x<s.x1)then s.column else II l x
theorem y8(s:bZ)(l:U bZ)(x:Int):II (s::l) x=bif decide (s.x0<=x)&&decide (x<s.x1)then s.column else II l x:=rfl
def Runs:U bZ->Prop
 |[]=>True
 |[s]=>s.x0<s.x1/\s.column≠[]
 |s::t::l=>(s.x0<s.x1/\s.column≠[])/\s.x1<=t.x0/\(s.x1=t.x0->s.column≠t.column)/\Runs (t::l)
theorem aoj{s:bZ}{l:U bZ}{x:Int}(h1:s.x0<=x)(h2:x<s.x1):II (s::l) x=s.column:=by rw[y8,show(decide (s.x0<=x)&&decide (x<s.x1))=true by simp[h1,h2]];rfl
theorem qd{α:Type}(f:Int->Int->α)(a b:Int)(l:U Int):iZ f (a::b::l)=f a b::iZ f (b::l):=rfl
theorem Og(g:Int->U aN):∀(es:U Int),es.Pairwise (· < ·)->Xf (iZ (λ a b=>(⟨a,b,g a⟩:bZ)) es)
 |[],_=>trivial
 |[_],_=>trivial
 |[a,b],h=>by
  have h1:=(pairwise_cons.1 h).1 b (by simp);exact h1
 |a::b::c::l,h=>by
  have h1:=(pairwise_cons.1 h).1 b (by simp);exact⟨h1,rfl,Og g (b::c::l) (pairwise_cons.1 h).2⟩
theorem IJ(g:Int->U aN)(x:Int):∀(es:U Int),(∀ e∈es,x<e)->II (iZ (λ a b=>(⟨a,b,g a⟩:bZ)) es) x=[]
 |[],_=>rfl
 |[_],_=>rfl
 |a::b::l,h=>by
  have ha:=h a (by simp);rw[qd,y8,show(decide (a<=x)&&decide (x<b))=false by rw[Bool.and_eq_false_iff,dP];left;omega,ak];exact IJ g x (b::l) λe he=>h e (eH _ he)
theorem IK(g:Int->U aN)(x:Int):∀(l:U Int)(a:Int),(a::l).Pairwise (· < ·)->a<=x->
 (∀ e∈a::l,e<=x->(∀ e'∈a::l,e'<=e\/x<e')->g e=g x)->((∀ e∈a::l,e<=x)->g x=[])->II (iZ (λ a b=>(⟨a,b,g a⟩:bZ)) (a::l)) x=g x
 |[],a,_,hx,_,h2=>(h2 (λ e he=>by have:e=a:=by simpa using he
                                  subst this;exact hx)).symm
 |b::l,a,hp,hx,h1,h2=>by
  have hab:=(pairwise_cons.1 hp).1 b (by simp);rw[qd,y8];by_cases hb:x<b
  .rw[show (decide (a<=x)&&decide (x<b))=true by simp[hx,hb],aj];refine h1 a (by simp) hx λe he=>?_;rcases aO.1 he with rfl |he
   .exact .inl (Int.le_refl _)
   .right;rcases aO.1 he with rfl |he
    .exact hb
    .have:=(pairwise_cons.1 (pairwise_cons.1 hp).2).1 e he;omega
  .rw[show (decide (a<=x)&&decide (x<b))=false by simp[hb],ak];refine IK g x l b (pairwise_cons.1 hp).2 (by omega) (λ e he hex hc=>h1 e (eH _ he) hex λe' he'=>?_) λhall=>h2 λe he=>?_
   .rcases aO.1 he' with rfl |he'
    .left;have:=(pairwise_cons.1 hp).1 e he;omega
    .exact hc e' he'
   .rcases aO.1 he with rfl |he
    .exact hx
    .exact hall e he
theorem aeC(g:Int->U aN)(es:U Int)(hp:es.Pairwise (· < ·))(x:Int)
 (h1:∀e∈es,e<=x->(∀ e'∈es,e'<=e\/x<e')->g e=g x) (h2:(∀ e∈es,e<=x)->g x=[]) (h3:(∀ e∈es,x<e)->g x=[]):II (iZ (λ a b=>(⟨a,b,g a⟩:bZ)) es) x=g x:=by
 cases es with
 |nil=>exact(h3 (by simp)).symm
 |cons a l=>
  by_cases hx:a<=x
  .exact IK g x l a hp hx h1 h2
  .have hall:∀e∈a::l,x<e:=by
    intro e he;rcases aO.1 he with rfl |he
    .omega
    .have:=(pairwise_cons.1 hp).1 e he;omega
   rw[IJ g x _ hall,h3 hall]
theorem Xg{l:U ax}{z:Int}:z∈gU l↔∃r∈l,z=r.x0\/z=r.x1:=by
 rw[gU,alG,List.mem_flatMap];simp
theorem Lc(l:U ax):(gU l).Pairwise (· < ·):=ad8 _
theorem Y1{l:U ax}{es:U Int}(hes:∀r∈l,r.x0∈es/\r.x1∈es){e x:Int}(hex:e<=x)(hc:∀e'∈es,e'<=e\/x<e'):jQ l e=jQ l x:=by
 unfold jQ;congr 1;refine List.filter_congr λr hr=>?_;have⟨h0,h1⟩:=hes r hr;have:=hc _ h0;have:=hc _ h1;rw[jZ,aL,aL,aV,aV,aV,aV];omega
theorem Oh{l:U ax}{x:Int}(h:∀r∈l,x<r.x0\/r.x1<=x):jQ l x=[]:=by
 unfold jQ;rw[List.map_eq_nil_iff,List.filter_eq_nil_iff];intro r hr;have:=h r hr;rw[aL,aV,aV];omega
theorem IL(l:U ax):Xf (bD l):=Og _ _ (Lc l)
theorem Ld(l:U ax)(x:Int):II (bD l) x=dG l x:=by
 have hes:∀r∈l,r.x0∈gU l/\r.x1∈gU l:=λr hr=>⟨Xg.2 ⟨r,hr,.inl rfl⟩,Xg.2 ⟨r,hr,.inr rfl⟩⟩;refine aeC (dG l) (gU l) (Lc l) x (λ e _ hex hc=>?_) (λ hall=>?_) (λ hall=>?_)
 .unfold dG;rw[Y1 hes hex hc]
 .unfold dG;rw[Oh λr hr=> .inr (hall _ (hes r hr).2)];rfl
 .unfold dG;rw[Oh λr hr=> .inl (hall _ (hes r hr).1)];rfl
theorem aj9{a:U ax}(h:c7 a=true):sd a=(a,0):=by
 unfold c7 at h;rw[aL,aV,aV]at h;obtain⟨h1,h2⟩:=h;exact Prod.ext h2 h1
theorem uD{a:U ax}(h:c7 a=true):(∀ r∈a,eI r=true)/\a.length<=200/\nR (bD a)=a:=by
 have h:=aj9 h;unfold sd at h;split at h
 .rename_i hall;split at h
  .simp at h
  .split at h
   .simp at h
   .rename_i rb;injection h with h _;refine⟨all_eq_true.1 hall,?_,h⟩;rw[<- h];omega
 .simp at h
def ext(ab:U aN)(p:aN):U aN:=
 match ab.getLast? with
 |some q=>bif q.to==p.from_ then ab.dropLast++[⟨q.from_,p.to⟩]else ab++[p]
 |none=>[p]
def ld(a b:U aN):U Int:=Gk ((a++b).flatMap λs=>[s.from_,s.to])
def uE(keep:Bool->Bool->Bool)(a b:U aN):U aN:=
 ((iZ aN.mk (ld a b)).filter λp=>keep (i6 a p.from_) (i6 b p.from_)).foldl ext []
theorem ag5(o:U aN)(q p:aN):ext (o++[q]) p=bif q.to==p.from_ then o++[⟨q.from_,p.to⟩]else o++[q]++[p]:=by simp[ext]
def qR(keep:Bool->Bool->Bool)(a b:U ax):U bZ:=
 iZ (λ x x'=>(⟨x,x',uE keep (dG a x) (dG b x)⟩:bZ)) (gU (a++b))
def pJ(keep:Bool->Bool->Bool)(a b:U ax):U ax×Int:=
 if c7 a&&c7 b then(if (nR (qR keep a b)).length>200 then([],6)else(nR (qR keep a b),0))else([],1)
def Xh{α:Type}(a0:U α)(a1:Int)(a2:(α×Int×Unit)->J Int):(Int×Int)->J ((Int×Int)⊕Int)
 |(v1,v2)=>(bif (decide (v1<(v2:Int)))then(ck (decide (0<=1)&&decide (1<=IntKind.u64.bits)) ((bo a0 (i64.wrap ((IntKind.u64.wrap (i64.wrap (v1+v2)))/2 ^ (1:Int).toNat))).bind λx1=>(a2 (x1,a1,())).bind λr1=>(bif (decide (r1<(0:Int)))then some (.inl ((i64.wrap ((i64.wrap ((IntKind.u64.wrap (i64.wrap (v1+v2)))/2 ^ (1:Int).toNat))+1)),v2))else some (.inl (v1,(i64.wrap ((IntKind.u64.wrap (i64.wrap (v1+v2)))/2 ^ (1:Int).toNat)))))))else some (.inr v1))
theorem aeD{α:Type}{l:U α}{key:Int}{φ:(α×Int×Unit)->J Int}(p:α->Bool)(f:α->Int)(hφ:∀x,φ (x,key,())=some (f x))(hf:∀x,decide (f x<0)=p x)
 (hm:∀i j (hj:j<l.length) (hij:i<j),p l[j]=true->p (l[i]'(by omega))=true) (hl:l.length<1099511627776):
 ∀(m i j n:Nat),j -i<=m->i<=j->j<=l.length->(∀ k (hk:k<i) (hkl:k<l.length),p l[k]=true)->(∀ k (hk:j<=k) (hkl:k<l.length),p l[k]=false)->m<n->
 ∃w:Nat,w<=l.length/\iter (Xh l key φ) n ((i:Int),(j:Int))=some (w:Int)/\(∀ k (hk:k<w) (hkl:k<l.length),p l[k]=true)/\∀k (hk:w<=k) (hkl:k<l.length),p l[k]=false:=by
 intro m
 induction m with
 |zero=>
  intro i j n hm0 hij hjl h1 h2 hn;obtain⟨n,rfl⟩:∃q,n=q+1:=⟨n -1,by omega⟩;have:i=j:=by omega
  subst this;exact⟨i,hjl,fD (by simp[Xh]),h1,h2⟩
 |succ m ih=>
  intro i j n hm0 hij hjl h1 h2 hn;obtain⟨n,rfl⟩:∃q,n=q+1:=⟨n -1,by omega⟩;by_cases hlt:i<j
  .have c:decide ((i:Int)<(j:Int))=true:=(by simpa using hlt);have c1:(decide (0<=1)&&decide (1<=IntKind.u64.bits))=true:=rfl;have e:i64.wrap ((IntKind.u64.wrap (i64.wrap ((i:Int)+(j:Int))))/2 ^ (1:Int).toNat)=(((i+j)/2:Nat):Int):=by
    rw[aqy (by omega),ajV (by omega),show((((i+j:Nat):Int))/2 ^ (1:Int).toNat)=(((i+j)/2:Nat):Int)by
     rw[show (1:Int).toNat=1 from rfl,Int.pow_one];omega,Nl (by omega)]
   have hh:(i+j)/2<l.length:=(by omega);cases hp:p l[(i+j)/2]with
   |true=>
    have s:Xh l key φ ((i:Int),(j:Int))=some (.inl ((((i+j)/2+1:Nat):Int),(j:Int))):=by
     simp only[Xh,c,aj,c1,e,bf hh,af,hφ,hf,hp];rw[bL (by omega)]
    rw[gY s];refine ih _ _ n (by omega) (by omega) hjl (λ k hk hkl=>?_) h2 (by omega);by_cases hk2:k<(i+j)/2
    .exact hm k _ hh hk2 hp
    .have:k=(i+j)/2:=(by omega);subst this;exact hp
   |false=>
    have s:Xh l key φ ((i:Int),(j:Int))=some (.inl ((i:Int),(((i+j)/2:Nat):Int))):=(by simp only[Xh,c,aj,c1,e,bf hh,af,hφ,hf,hp,ak]);rw[gY s];refine ih _ _ n (by omega) (by omega) (by omega) h1 (λ k hk hkl=>?_) (by omega);by_cases hk2:(i+j)/2<k
    .cases hpk:p l[k]with
     |false=>rfl
     |true=>have:=hm _ k hkl hk2 hpk;rw[hp]at this;cases this
    .have:k=(i+j)/2:=(by omega);subst this;exact hp
  .have:i=j:=(by omega);subst this;exact⟨i,hjl,fD (by simp[Xh]),h1,h2⟩
theorem amg(l:U bZ)(key:Int)(φ:(bZ×Int×Unit)->J Int):lJ l key φ=Xh l key φ:=by funext ⟨a,b⟩;rfl
theorem aok(l:U aN)(key:Int)(φ:(aN×Int×Unit)->J Int):mI l key φ=Xh l key φ:=by funext ⟨a,b⟩;rfl
theorem Xi:∀{l:U bZ},Xf l->l.Pairwise (λ s t=>s.x1<=t.x0)/\∀s∈l,s.x0<s.x1
 |[],_=>⟨List.Pairwise.nil,by simp⟩
 |[s],h=>⟨by simp,λt ht=>by have:t=s:=by simpa using ht
                            subst this;exact h⟩
 |s::t::l,h=>by
  obtain⟨h1,h2,h3⟩:=h;have⟨p1,p2⟩:=Xi h3;refine⟨?_,?_⟩
  .rw[pairwise_cons];refine⟨λ u hu=>?_,p1⟩;rcases aO.1 hu with rfl |hu
   .omega
   .have:=(pairwise_cons.1 p1).1 u hu;have:=p2 t (by simp);omega
  .intro u hu;rcases aO.1 hu with rfl |hu
   .exact h1
   .exact p2 u hu
theorem LK{x:Int}:∀{l:U bZ},(∀ s∈l,¬(s.x0<=x/\x<s.x1))->II l x=[]
 |[],_=>rfl
 |s::l,h=>by
  have:=h s (by simp);rw[y8,show(decide (s.x0<=x)&&decide (x<s.x1))=false by rw[Bool.and_eq_false_iff,dP,dP];omega,ak];exact LK λt ht=>h t (by simp[ht])
theorem aaG{x:Int}:∀{l:U bZ}{w:Nat}(hw:w<l.length),(∀ k (hk:k<w),¬((l[k]'(by omega)).x0<=x/\x<(l[k]'(by omega)).x1))->l[w].x0<=x->x<l[w].x1->II l x=l[w].column
 |[],w,hw,_,_,_=>by simp at hw
 |s::l,0,hw,_,h0,h1=>aoj h0 h1
 |s::l,w+1,hw,hk,h0,h1=>by
  have hs:=hk 0 (by omega);simp only[List.getElem_cons_zero]at hs;rw[y8,show(decide (s.x0<=x)&&decide (x<s.x1))=false by rw[Bool.and_eq_false_iff,dP,dP];omega,ak];exact aaG (by simpa using hw) (λ k hk'=>by have:=hk (k+1) (by omega);simpa using this) h0 h1
theorem aeE{l:U bZ}{x:Int}(h:Xf l)(hl:l.length<1099511627776)(hn:l.length<n):W9 n l x=some (II l x):=by
 have⟨a1,a2⟩:=Xi h;rw[List.pairwise_iff_getElem]at a1
 have run:=aeD (l:=l) (key:=x) (φ:=λ(y1:bZ×Int×Unit)=>wG y1.1 y1.2.1) (λ s=>decide (s.x1<=x)) (λ s=>if s.x1<=x then -1 else 1)
  (λ s=>by show wG s x=_;unfold wG;by_cases c:s.x1<=x<;>simp[c]) (λ s=>by by_cases c:s.x1<=x<;>simp[c])
  (λ i j hj hij hp=>by
   rw[aV]at hp ⊢;have:=a1 i j (by omega) hj hij;have:=a2 l[j] (getElem_mem _);omega) hl l.length 0 l.length n (by omega) (by omega) (aD _) (λ k hk=>by omega) (λ k hk hkl=>by omega) hn
 obtain⟨w,hw,e,h1,h2⟩:=run;unfold W9 iW;rw[amg];have e':iter (Xh l x λ(y1:bZ×Int×Unit)=>wG y1.1 y1.2.1) n ((0:Int),(l.length:Int))=some (w:Int):=e;rw[e'];simp only[af];have aq:∀b:Int,∃bb,((bif (decide ((w:Int)<((l.length:Int):Int)))then(bo l (w:Int)).bind λx2=>(wG x2 x).bind λr2=>some ((w:Int),(r2==b))else some ((w:Int),false)):J (Int×Bool))=some ((w:Int),bb):=by
  intro b;by_cases c:w<l.length
  .have d:decide ((w:Int)<(l.length:Int))=true:=(by simpa using c);rw[d];simp only[aj];rw[bf c,af];unfold wG;cases decide (l[w].x1<=x)<;>exact⟨_,rfl⟩
  .have d:decide ((w:Int)<(l.length:Int))=false:=(by simp;omega);rw[d];exact⟨_,rfl⟩
 have⟨bb,hbb⟩:=aq 0;rw[hbb,af];simp only[];by_cases c:w<l.length
 .have d:decide ((w:Int)<(l.length:Int))=true:=by simpa using c
  simp only[d,aj,bf c,af];have hx1:=h2 w (aD _) c;rw[dP]at hx1;by_cases c2:l[w].x0<=x
  .simp only[c2,decide_true,aj];rw[aaG c (λ k hk hh=>?_) c2 (by omega)];have:=h1 k hk (by omega);rw[aV]at this;omega
  .simp only[c2,decide_false,ak];rw[LK λs hs hh=>?_];obtain⟨k,hk,rfl⟩:=mem_iff_getElem.1 hs;rcases Nat.lt_trichotomy k w with BE |rfl |BE
   .have:=h1 k BE hk;rw[aV]at this;omega
   .omega
   .have:=a1 w k c hk BE;have:=a2 l[w] (getElem_mem _);omega
 .have d:decide ((w:Int)<(l.length:Int))=false:=by simp;omega
  simp only[d,ak,af];rw[LK λs hs hh=>?_];obtain⟨k,hk,rfl⟩:=mem_iff_getElem.1 hs;have:=h1 k (by omega) hk;rw[aV]at this;omega
theorem Oi{l:U aN}{y:Int}(h:Can l)(hl:l.length<1099511627776)(hn:l.length<n):CY n l y=some (i6 l y):=by
 obtain⟨a1,a2⟩:=h;rw[List.pairwise_iff_getElem]at a1
 have run:=aeD (l:=l) (key:=y) (φ:=λ(y1:aN×Int×Unit)=>lK y1.1 y1.2.1) (λ s=>decide (s.to<=y)) (λ s=>if s.to<=y then -1 else 1)
  (λ s=>by show lK s y=_;unfold lK;by_cases c:s.to<=y<;>simp[c]) (λ s=>by by_cases c:s.to<=y<;>simp[c])
  (λ i j hj hij hp=>by
   rw[aV]at hp ⊢;have:=a1 i j (by omega) hj hij;have:l[j].from_<l[j].to:=a2 l[j] (getElem_mem _);omega) hl l.length 0 l.length n (by omega) (by omega) (aD _) (λ k hk=>by omega) (λ k hk hkl=>by omega) hn
 obtain⟨w,hw,e,h1,h2⟩:=run;unfold CY jl;rw[aok];have e':iter (Xh l y λ(y1:aN×Int×Unit)=>lK y1.1 y1.2.1) n ((0:Int),(l.length:Int))=some (w:Int):=e;rw[e'];simp only[af];have aq:∀b:Int,∃bb,((bif (decide ((w:Int)<((l.length:Int):Int)))then(bo l (w:Int)).bind λx2=>(lK x2 y).bind λr2=>some ((w:Int),(r2==b))else some ((w:Int),false)):J (Int×Bool))=some ((w:Int),bb):=by
  intro b;by_cases c:w<l.length
  .have d:decide ((w:Int)<(l.length:Int))=true:=(by simpa using c);rw[d];simp only[aj];rw[bf c,af];unfold lK;cases decide (l[w].to<=y)<;>exact⟨_,rfl⟩
  .have d:decide ((w:Int)<(l.length:Int))=false:=(by simp;omega);rw[d];exact⟨_,rfl⟩
 have⟨bb,hbb⟩:=aq 0;rw[hbb,af];simp only[];by_cases c:w<l.length
 .have d:decide ((w:Int)<(l.length:Int))=true:=by simpa using c
  simp only[d,aj,bf c,af];have hx1:=h2 w (aD _) c;rw[dP]at hx1;congr 1;rw[jZ,aV,Ob];constructor
  .exact λhf=>⟨l[w],getElem_mem _,hf,by omega⟩
  .rintro⟨s,hs,g1,g2⟩;obtain⟨k,hk,rfl⟩:=mem_iff_getElem.1 hs;rcases Nat.lt_trichotomy k w with BE |rfl |BE
   .have:=h1 k BE hk;rw[aV]at this;omega
   .exact g1
   .have:=a1 w k c hk BE;omega
 .have d:decide ((w:Int)<(l.length:Int))=false:=by simp;omega
  simp only[d,ak];congr 1;symm;cases hh:i6 l y with
  |false=>rfl
  |true=>
   obtain⟨s,hs,g1,g2⟩:=(Ob _ _).1 hh;obtain⟨k,hk,rfl⟩:=mem_iff_getElem.1 hs;have:=h1 k (by omega) hk;rw[aV]at this;omega
theorem Oj{l:U (List aN)}(hf:l.flatten.length<1099511627776)(hl:l.length<1099511627776)(hn:l.length<n):yU n l=some l.flatten:=Nn (aN.mk 0 0) (b:=16) hf (by omega) hl hn
theorem Ol(l:U aN):(l.flatMap λr=>[r.from_,r.to]).length=2*l.length:=by
 induction l with
 |nil=>rfl
 |cons x l ih=>simp only[List.flatMap_cons,dM,ih,bC,length_nil];omega
theorem S9{l:U aN}(hl:l.length<10995116277)(hn:l.length<n):iter (wH l) n ((0:Int),([]:U Int))=some (l.flatMap λr=>[r.from_,r.to]):=by
 have:=fA (l:=l) (step:=wH l) (λ i (s:List Int)=>((i:Int),s)) (λ r s=>s++[r.from_,r.to]) (λ s=>s) (λ i s=>s.length<=2*i)
  (λ i hi s hs=>?_) (λ s hs=>by simp[wH]) n hn [] (aD _)
 .rw[show ((0:Nat):Int)=0 from rfl]at this;rw[this];have gen:∀(ys:U aN)(s:U Int),ys.foldl (λ s r=>s++[r.from_,r.to]) s=s++ys.flatMap λr=>[r.from_,r.to]:=by
   intro ys
   induction ys with
   |nil=>intro s;simp
   |cons y ys ih=>intro s;simp[ih]
  congr 1;simpa using gen l []
 .have hi':decide ((i:Int)<(l.length:Int))=true:=by simpa using hi
  have ap:bP s.length s.length (sub ([l[i].from_,l[i].to]:U Int) 0 2).length 2 8=true:=cZ (n:=2);simp only[wH,hi',aj,aU hi,aW hi,af,ap,dO,aC];refine⟨?_,by simp;omega⟩;rw[bL (by omega)];rfl
theorem LM{α β:Type}(p:α->Bool)(f:β->α->β):∀(l:U α)(s:β),(l.filter p).foldl f s=l.foldl (λ s x=>bif p x then f s x else s) s
 |[],s=>rfl
 |x::l,s=>by
  rw[List.filter_cons,foldl_cons];cases h:p x with
  |true=>simp only[if_true,foldl_cons,aj];exact LM p f l _
  |false=>simp only[Bool.false_eq_true,if_false,ak];exact LM p f l _
theorem Xj(ab:U aN)(p:aN):(ext ab p).length<=ab.length+1:=by
 unfold ext;cases ab.getLast? with
 |none=>simp
 |some q=>simp only;cases q.to==p.from_<;>simp<;>omega
theorem Xk(a b:U aN):(ld a b).length<=2*(a.length+b.length):=by
 have h:=rC (j6 (λ a b=>decide (a<b)) ((a++b).flatMap λr=>[r.from_,r.to]));rw[eT,Ol,dM]at h;exact h
theorem Y2(keep:Bool->Bool->Bool)(a b:U aN):(uE keep a b).length<=2*(a.length+b.length):=by
 have gen:∀(ys ab:U aN),(ys.foldl ext ab).length<=ab.length+ys.length:=by
  intro ys
  induction ys with
  |nil=>intro ab;simp
  |cons y ys ih=>
   intro ab;simp only[foldl_cons,bC];have:=ih (ext ab y);have:=Xj ab y;omega
 have h:=gen ((iZ aN.mk (ld a b)).filter λp=>keep (i6 a p.from_) (i6 b p.from_)) [];have h2:=length_filter_le (λ p=>keep (i6 a p.from_) (i6 b p.from_)) (iZ aN.mk (ld a b));have h3:=(rT aN.mk (ld a b)).1;have h4:=Xk a b;simp only[length_nil]at h;unfold uE;omega
theorem aeF{keep:Bool->Bool->Bool}{φ:(Bool×Bool×Unit)->J Bool}(hφ:∀p q,φ (p,q,())=some (keep p q)){a b:U aN}(ha:Can a)(hb:Can b)(hl:a.length+b.length<1099511627)(hn:2*(a.length+b.length)+2<n):Iw n a b φ=some (uE keep a b):=by
 have fl:[a,b].flatten=a++b:=by simp
 have s2:(sub ([a,b]:U (List aN)) 0 2)=[a,b]:=rfl;have q2:aE ([a,b]:U (List aN)).length 2=true:=rfl;have hys:=Xk a b;have hfl:((a++b).flatMap λr=>[r.from_,r.to]).length=2*(a.length+b.length):=by rw[Ol,dM]
 unfold Iw;rw[s2,q2];simp only[aj];rw[Oj (by rw[fl,dM];omega) (by simp) (by simp;omega),fl];simp only[af,length_nil,aC,aj,S9 (l:=a++b) (n:=n) (by rw[dM];omega) (by rw[dM];omega)];rw[pI (by rw[hfl];omega) (by rw[hfl];omega)];simp only[af,eT,aC,aj];rw[uy (by rw[eT,hfl];omega) (by rw[eT,hfl];omega)];simp only[af];have hE:gF (j6 ot ((a++b).flatMap λr=>[r.from_,r.to]))=ld a b:=rfl;rw[hE];have⟨p1,p2⟩:=rT aN.mk (ld a b);have key:iter (wI n a b φ ((),ld a b)) n ((1:Int),([]:U aN))=some (uE keep a b):=by
  have:=fA (l:=iZ aN.mk (ld a b)) (step:=wI n a b φ ((),ld a b)) (λ i (s:List aN)=>(((i+1:Nat):Int),s)) (λ p s=>bif keep (i6 a p.from_) (i6 b p.from_)then ext s p else s) (λ s=>s) (λ i s=>s.length<=i)
   (λ i hi s hs=>?_) (λ s hs=>?_) n (by omega) [] (aD _)
  .rw[show ((0+1:Nat):Int)=1 from rfl]at this;rw[this,uE,LM]
  .have hi2:i+1<(ld a b).length:=(by omega);have hi1:i<(ld a b).length:=(by omega);have d:decide (((i+1:Nat):Int)<(((ld a b).length:Nat):Int))=true:=(by simp;omega);have wp:i64.wrap (((i+1:Nat):Int) -1)=(i:Int):=(by rw[mV (by omega) (by omega)];rfl);have pe:(iZ aN.mk (ld a b))[i]=aN.mk (ld a b)[i] (ld a b)[i+1]:=p2 i hi2 hi;rw[pe];have lx:=Xj s (aN.mk (ld a b)[i] (ld a b)[i+1]);have ap:bP s.length s.length (sub ([(aN.mk (ld a b)[i] (ld a b)[i+1])]:U aN) 0 1).length 1 16=true:=cZ (n:=1);have sb:(sub ([(aN.mk (ld a b)[i] (ld a b)[i+1])]:U aN) 0 1)=[aN.mk (ld a b)[i] (ld a b)[i+1]]:=rfl;refine⟨?_,by cases keep (i6 a (ld a b)[i]) (i6 b (ld a b)[i])<;>simp only[aj,ak]<;>omega⟩;simp only[wI,d,aj,wp,aU hi1,aW hi1,af,Oi (n:=n) ha (show a.length<1099511627776 by omega) (show a.length<n by omega),Oi (n:=n) hb (show b.length<1099511627776 by omega) (show b.length<n by omega),hφ];cases hk:keep (i6 a (ld a b)[i]) (i6 b (ld a b)[i])with
   |false=>
    simp only[Bool.not_false,aj,aC,af,ak];rw[bL (by omega)]
   |true=>
    simp only[Bool.not_true,ak,aj];rcases List.eq_nil_or_concat s with rfl |⟨s0,q,HK⟩
    .have d0:decide (((([]:U aN).length:Nat):Int)>0)=false:=(by simp);simp only[d0,ak,af,aU hi2,aW hi2,aj,ap,dO,aC];rw[bL (by omega)];rfl
    .rw[List.concat_eq_append]at HK;subst HK;have d0:decide (((((s0++[q]).length:Nat):Int))>0)=true:=(by simp<;>omega);have A0:(s0++[q]).length=s0.length+1:=(by simp);have wq:i64.wrap ((((s0++[q]).length:Nat):Int) -1)=(s0.length:Int):=(by rw[mV (by simp) (by omega),A0];rfl);have RW:cN (s0.length:Int) (s0++[q]).length=true:=aU (by omega);have g:bo (s0++[q]) (((0:Nat):Int)+(s0.length:Int))=some q:=(by rw[Es];simp);have z:(((0:Nat):Int)+(s0.length:Int)).toNat=s0.length:=(by simp);have st:(s0++[q]).set s0.length (aN.mk q.from_ (ld a b)[i+1])=s0++[⟨q.from_,(ld a b)[i+1]⟩]:=(by simp);simp only[d0,aj,wq,RW,g,af,ag5];cases hj:q.to==(ld a b)[i]with
     |true=>
      simp only[aj,aU hi2,aW hi2,af,z,st];have e:aE (s0++[q]).length (s0++[(⟨q.from_,(ld a b)[i+1]⟩:aN)]).length=true:=(by simp);simp only[e,aj,af,aC];rw[bL (by omega)]
     |false=>
      rw[sb]at ap;simp only[ak,aU hi2,aW hi2,af,aj,sb,ap,dO,aC];rw[bL (by omega)]
  .have d:decide ((((iZ aN.mk (ld a b)).length+1:Nat):Int)<(((ld a b).length:Nat):Int))=false:=(by simp;omega);simp only[wI,d,ak,aC,aj]
 rw[key];simp only[af,bX,aC,aj]
theorem Dg(keep:Bool->Bool->Bool)(a b:U ax):qR keep a b=(bD (a++b)).map λs=>⟨s.x0,s.x1,uE keep (dG a s.x0) (dG b s.x0)⟩:=by
 have gen:∀es:U Int,iZ (λ x x'=>(⟨x,x',uE keep (dG a x) (dG b x)⟩:bZ)) es=(iZ (λ x x'=>(⟨x,x',dG (a++b) x⟩:bZ)) es).map λs=>⟨s.x0,s.x1,uE keep (dG a s.x0) (dG b s.x0)⟩:=by
  intro es
  match es with
  |[]=>rfl
  |[_]=>rfl
  |x::y::l=>
   rw[qd,qd,aF];congr 1;have:∀es:U Int,iZ (λ x x'=>(⟨x,x',uE keep (dG a x) (dG b x)⟩:bZ)) es=(iZ (λ x x'=>(⟨x,x',dG (a++b) x⟩:bZ)) es).map λs=>⟨s.x0,s.x1,uE keep (dG a s.x0) (dG b s.x0)⟩:=by
    intro es
    induction es with
    |nil=>rfl
    |cons x es ih=>
     cases es with
     |nil=>rfl
     |cons y es=>rw[qd,qd,aF,ih]
   exact this (y::l)
 exact gen (gU (a++b))
theorem Y3{keep:Bool->Bool->Bool}{φ:(Bool×Bool×Unit)->J Bool}(hφ:∀p q,φ (p,q,())=some (keep p q)){a b:U ax}(ha:a.length<1099511627776)(hb:b.length<1099511627776)(hna:a.length<n)(hnb:b.length<n)(hn:1000<=n):EC n a b φ=some (pJ keep a b):=by
 unfold EC pJ;rw[lY ha hna hn,af];cases hra:c7 a with
 |false=>rfl
 |true=>
  rw[lY hb hnb hn];simp only[Bool.not_true,ak,af,Bool.true_and];cases hrb:c7 b with
  |false=>rfl
  |true=>
   have⟨a1,a2,_⟩:=uD hra;have⟨b1,b2,_⟩:=uD hrb;have fa:[a].flatten=a:=(by simp);have fb:[b].flatten=b:=(by simp);have fab:[a,b].flatten=a++b:=(by simp);have hab:∀r∈a++b,eI r=true:=λr hr=>by
    rcases aZ.1 hr with hr |hr
    .exact a1 r hr
    .exact b1 r hr
   have sa:oD n [a]=some (bD a):=by
    have:=xY (n:=n) (ls:=[a]) (by rw[fa];exact a1) (by rw[fa];omega) (by simp) (by rw[fa];omega) (by simp;omega)
    rwa [fa]at this
   have sb:oD n [b]=some (bD b):=by
    have:=xY (n:=n) (ls:=[b]) (by rw[fb];exact b1) (by rw[fb];omega) (by simp) (by rw[fb];omega) (by simp;omega)
    rwa [fb]at this
   have lab:(a++b).length=a.length+b.length:=dM;have sab:oD n [a,b]=some (bD (a++b)):=by
    have:=xY (n:=n) (ls:=[a,b]) (by rw[fab];exact hab) (by rw[fab,lab];omega) (by simp) (by rw[fab,lab];omega) (by simp;omega)
    rwa [fab]at this
   have e1:(sub ([a]:U (List ax)) 0 1)=[a]:=rfl;have e2:(sub ([b]:U (List ax)) 0 1)=[b]:=rfl;have e3:(sub ([a,b]:U (List ax)) 0 2)=[a,b]:=rfl;have q1:aE ([a]:U (List ax)).length 1=true:=rfl;have q2:aE ([b]:U (List ax)).length 1=true:=rfl;have q3:aE ([a,b]:U (List ax)).length 2=true:=rfl;have la:=uz a;have lb:=uz b;have lS:=uz (a++b);rw[lab]at lS;have mc:∀x,(dG a x).length<=200/\(dG b x).length<=200:=λx=>⟨Nat.le_trans (y5 a x) a2,Nat.le_trans (y5 b x) b2⟩;have lm:∀x,(uE keep (dG a x) (dG b x)).length<=800:=λx=>by
    have:=Y2 keep (dG a x) (dG b x);have:=mc x;omega
   have key:iter (qJ n φ (bD a) (bD b) (bD (a++b))) n ((0:Int),bD (a++b))=some (qR keep a b):=by
    have:=mJ (step:=qJ n φ (bD a) (bD b) (bD (a++b))) (λ i=>((i:Int),(qR keep a b).take i++(bD (a++b)).drop i)) (bD (a++b)).length (qR keep a b) (λ i hi=>?_) ?_ n (by omega)
    .simpa using this
    .have d:decide ((i:Int)<(((bD (a++b)).length:Nat):Int))=true:=(by simpa using hi);have lc:(qR keep a b).length=(bD (a++b)).length:=(by rw[Dg,length_map]);have lt:((qR keep a b).take i).length=i:=(by rw[length_take];omega);have hd:(bD (a++b)).drop i=(bD (a++b))[i]::(bD (a++b)).drop (i+1):=List.drop_eq_getElem_cons hi;have g:bo ((qR keep a b).take i++(bD (a++b)).drop i) (((0:Nat):Int)+(i:Int))=some (bD (a++b))[i]:=(by rw[Es,jw (by omega),lt,hd];simp);have st:∀s:bZ,((qR keep a b).take i++(bD (a++b)).drop i).set i s=(qR keep a b).take i++s::(bD (a++b)).drop (i+1):=by
      intro s;rw[List.set_append_right _ _ (by omega),lt,hd,Nat.sub_self];rfl
     have z:(((0:Nat):Int)+(i:Int)).toNat=i:=(by simp);have tk:(qR keep a b).take (i+1)=(qR keep a b).take i++[⟨(bD (a++b))[i].x0,(bD (a++b))[i].x1,uE keep (dG a (bD (a++b))[i].x0) (dG b (bD (a++b))[i].x0)⟩]:=by
      rw[iJ (by omega)];congr 2;simp only[Dg,List.getElem_map]
     have hm:=mc (bD (a++b))[i].x0;have mg:Iw n (dG a (bD (a++b))[i].x0) (dG b (bD (a++b))[i].x0) φ=some (uE keep (dG a (bD (a++b))[i].x0) (dG b (bD (a++b))[i].x0)):=
      aeF hφ (Oe a1 _).1 (Oe b1 _).1 (by omega) (by omega)
     have at1:W9 n (bD a) (bD (a++b))[i].x0=some (dG a (bD (a++b))[i].x0):=(by rw[aeE (IL a) (by omega) (by omega),Ld]);have at2:W9 n (bD b) (bD (a++b))[i].x0=some (dG b (bD (a++b))[i].x0):=(by rw[aeE (IL b) (by omega) (by omega),Ld]);simp only[qJ,d,aj,aU hi,g,af,bX,at1,at2,mg,aC,z,st];rw[bL (by omega),tk,aM];rfl
    .have lc:(qR keep a b).length=(bD (a++b)).length:=(by rw[Dg,length_map]);have d:decide ((((bD (a++b)).length:Nat):Int)<(((bD (a++b)).length:Nat):Int))=false:=(by simp);simp only[qJ,d,ak,List.drop_length,append_nil];rw[take_of_length_le (by omega)]
   have lc:(qR keep a b).length=(bD (a++b)).length:=(by rw[Dg,length_map]);have cc:∀s∈qR keep a b,s.column.length<=800:=by
    intro s hs;rw[Dg,mem_map]at hs;obtain⟨t,_,rfl⟩:=hs;exact lm _
   have sl:sub (qR keep a b) 0 (bD (a++b)).length=qR keep a b:=(by rw[<- lc,bX]);simp only[Bool.not_true,ak,e1,e2,e3,q1,q2,q3,aj,sa,sb,sab,af,bX,aC,key,sl,lc];rw[R8 (b:=800) (by omega) (by omega) cc (by omega) (by omega)];simp only[af,bX,aC,aj,yT,if_true,Bool.and_self];by_cases rb:(nR (qR keep a b)).length>200
   .have:decide (((nR (qR keep a b)).length:Int)>200)=true:=(by simp;omega);simp only[this,aj,af,rb,if_true]
   .have:decide (((nR (qR keep a b)).length:Int)>200)=false:=(by simp;omega);simp only[this,ak,af,rb,if_false]
theorem Om{a b:U ax}(ha:a.length<1099511627776)(hb:b.length<1099511627776)(hna:a.length<n)(hnb:b.length<n)(hn:1000<=n):CZ n a b=some (pJ (λ p q=>p&&q) a b):=by
 unfold CZ;rw[Y3 (keep:=λp q=>p&&q) (λ p q=>by show xN p q=_;unfold xN;cases p<;>rfl) ha hb hna hnb hn];rfl
theorem Oo{keep:Bool->Bool->Bool}(a b:U ax):(pJ keep a b).1.length<=200:=by
 unfold pJ;split
 .split
  .simp
  .show(nR _).length<=200;omega
 .simp
def R9(r:ax):Int:=(r.x1 -r.x0)*(r.y1 -r.y0)
def LP(l:U ax):Int:=(l.map R9).sum
theorem IQ{r:ax}(h:eI r=true):0<=R9 r/\R9 r<=1099511627776:=by
 simp only[eI,aL,aV]at h;unfold R9;refine⟨Int.mul_nonneg (by omega) (by omega),?_⟩;have:=Int.mul_le_mul (show r.x1 -r.x0<=1048576 by omega) (show r.y1 -r.y0<=1048576 by omega) (by omega) (by omega);omega
theorem Xl:∀{l:U ax},(∀ r∈l,eI r=true)->0<=LP l/\LP l<=1099511627776*(l.length:Int)
 |[],_=>by simp[LP]
 |r::l,h=>by
  have h1:=IQ (h r List.mem_cons_self);have h2:=Xl (l:=l) λq hq=>h q (eH _ hq);have e:LP (r::l)=R9 r+LP l:=rfl;rw[e,bC]
  push_cast
  omega
theorem IU{l:U ax}{φ:(ax×Unit)->J Bool}(p:ax->Bool)(h:∀x∈l,φ (x,())=some (p x))(hl:l.length<1099511627776)(hn:l.length<n):uf n l φ=some (wW p l):=fJ p h hl hn
theorem sI{l:U ax}{φ:(ax×Unit)->J Bool}(p:ax->Bool)(h:∀x∈l,φ (x,())=some (p x))(hl:l.length<1099511627776)(hn:l.length<n):iY n l φ=some (l.any p):=by
 unfold iY;rw[IU p h hl hn,af,xH]
theorem aaH:∀(l:U Int)(x:Int),(l++[x]).sum=l.sum+x
 |[],x=>by simp
 |a::l,x=>by rw[List.cons_append,List.sum_cons,List.sum_cons,aaH l x];omega
theorem akb{r:ax}(h:eI r=true):pE r=some (R9 r):=by
 have hb:=IQ h;unfold pE sw;rw[iQ,h];simp only[af,aj];simp only[eI,aL,aV]at h;unfold R9 at*;rw[dU (x:=r.x1 -r.x0),dU (x:=r.y1 -r.y0),dU (by omega) (by omega)]
theorem LQ{a:U ax}(ha:a.length<=900)(hn:1000<=n):J2 n a=some (bif c7 a then LP a else 0):=by
 unfold J2;rw[lY (by omega) (by omega) hn];simp only[af];cases hr:c7 a with
 |false=>rfl
 |true=>
  have ok:=(uD hr).1;have:=mJ (step:=ED a) (λ i=>(LP (a.take i),(i:Int))) a.length (LP a) (λ i hi=>?_) ?_ n (by omega)
  .have e:LP (a.take 0)=0:=rfl;rw[e,show((0:Nat):Int)=0 from rfl]at this;simp only[Bool.not_true,ak,aj,this,af]
  .have c:decide ((i:Int)<(a.length:Int))=true:=(by simpa using hi);have h1:=Xl (l:=a.take i) λr hr=>ok r (List.mem_of_mem_take hr);rw[length_take]at h1;have h2:=IQ (ok _ (getElem_mem hi));have e:LP (a.take (i+1))=LP (a.take i)+R9 a[i]:=(by rw[iJ hi];unfold LP;rw[map_append];exact aaH _ _);simp only[ED,c,aj,bf hi,af,akb (ok _ (getElem_mem hi))];rw[bL (by omega),dU (by omega) (by omega),e]
  .simp[ED]
theorem Qn{α:Type}(p:α->Bool)(l:U α):(match nX p l with |some _=>true |none=>false)=l.any p:=by
 have:=pV p l;rw[<- this];cases nX p l<;>rfl
def OF(p q:ax):Bool:=decide (max p.x0 q.x0<min p.x1 q.x1)&&decide (max p.y0 q.y0<min p.y1 q.y1)
def Ly(a b:U ax):Bool:=a.any λp=>b.any λq=>OF p q
theorem ag6{a b:U ax}(ha:a.length<1099511627776)(hb:b.length<1099511627776)(hna:a.length<n)(hnb:b.length<n):UF n a b=some (Ly a b):=by
 unfold UF Ly;rw[sI (λ p=>b.any λq=>OF p q) (λ p _=>?_) ha hna]
 .rfl
 .show EM n p b=_;unfold EM;rw[sI (λ q=>OF p q) (λ q _=>?_) hb hnb]
  .rfl
  .show vN q p=_;unfold vN OF;have e1:max q.x0 p.x0=max p.x0 q.x0:=(by omega);have e2:min q.x1 p.x1=min p.x1 q.x1:=(by omega);have e3:max q.y0 p.y0=max p.y0 q.y0:=(by omega);have e4:min q.y1 p.y1=min p.y1 q.y1:=by omega
   first
    |(cases decide (max p.x0 q.x0<min p.x1 q.x1)<;>rfl)
    |(rw [e1,e2,e3,e4];cases decide (max p.x0 q.x0<min p.x1 q.x1)<;>rfl)
theorem ag7{a b:U ax}(hl:a.length<1099511627776)(hn:a.length<n):UE n a b=some (decide (a=b)):=by
 unfold UE;rw[Db hl hn];rfl
abbrev xd(a b:ax):Bool:=decide (a.y0<b.y0)
theorem aiS:Go.Sort.SWO xd where
 irrefl x:=by simp[xd]
 trans x y z h1 h2:=by simp only[xd,aV]at *;omega
 ntrans x y z h1 h2:=by simp only[xd,dP]at *;omega
instance:Inhabited ax:=⟨ax.mk 0 0 0 0⟩
theorem Kq{l:U ax}{φ:(ax×ax×Unit)->J Int}(f:ax->ax->Int)(hφ:∀x y,φ (x,y,())=some (f x y))(hf:∀x y,decide (f x y<0)=xd x y)(hl:l.length<1099511627776)(_:l.length<n):vo n l φ=some (lq xd l):=
 aem f hφ hf aiS hl
structure aqC(R:List bZ):Prop where
 runs:Runs R
 len:R.length<=200
 col:∀s∈R,Can s.column/\∀q∈s.column,0<=q.from_/\q.from_<q.to/\q.to<=1048576
 xs:∀s∈R,0<=s.x0/\s.x0<s.x1/\s.x1<=1048576
 zg:(R.flatMap λs=>s.column.map (·.from_)).length<=200
theorem ag8(p:Nat->Bool)(N:Nat):(nX p (List.range N)=none->(List.range N).any p=false)/\(∀ i,nX p (List.range N)=some i->(List.range N).any p=true):=by
 refine⟨λ h=>?_,λi h=>?_⟩
 .rw[<- pV,h];rfl
 .rw[<- pV,h];rfl
theorem IV{W O:Type}{step:Int->J (Int⊕(W⊕O))}(N:Nat)(p:Nat->Bool)(w:W)(o:O)
 (h:∀i,i<N->step (i:Int)=some (bif p i then .inr (.inr o)else .inl ((i+1:Nat):Int)))
 (hend:step (N:Int)=some (.inr (.inl w))) (n:Nat) (hn:N<n):iter step n (0:Int)=some (bif (List.range N).any p then .inr o else .inl w):=by
 have:=rZ (l:=List.range N) (step:=step) (λ i=>(i:Int)) p w (λ _=>o) (λ i hi=>by
  rw[List.length_range]at hi;rw[List.getElem_range];exact h i hi) (by rw[List.length_range];exact hend) n (by rw[List.length_range];exact hn)
 rw[show ((0:Nat):Int)=0 from rfl]at this;rw[this];have⟨r1,r2⟩:=ag8 p N;cases hf:nX p (List.range N)with
 |none=>rw[r1 hf];rfl
 |some i=>rw[r2 i hf];rfl
theorem IW{p:U bV}(hl:p.length<=1000)(hn:2000<=n):iter (pY n p (gm p)) n (0:Int)=some (bif (List.range p.length).any (Jx p)then .inr false else .inl ()):=by
 refine IV p.length (Jx p) () false (λ i hi=>?_) ?_ n (by omega)
 .have nz:((p.length:Int) !=0)=true:=by simp;intro h;rw[h]at hi;simp at hi
  have md:(i+1)%p.length<p.length:=Nat.mod_lt _ (by omega);have w:i64.wrap ((i:Int)+1)=((i+1:Nat):Int):=bL (by omega);have g1:bo (gm p) (((0:Nat):Int)+(i:Int))=some (ja p i):=by rw[aW (by rw[dZ];exact hi),y7]
  have g2:bo (gm p) (((0:Nat):Int)+(((i+1)%p.length:Nat):Int))=some (ja p ((i+1)%p.length)):=by rw[aW (by rw[dZ];exact md),y7]
  obtain⟨r,hr1,hr2⟩:=LJ (n:=n) (pS p 0) (pS p i) (by omega);have g3:bo p 0=some (pS p 0):=by rw[anW (by omega),<- UH]
  have g4:bo p (i:Int)=some (pS p i):=by rw[bf hi,<- UH]
  have dz:decide ((i:Int)>0)=decide (0<i):=by rw[jZ];simp
  have pt:bV.mk (ja p i).l4 (ja p i).pN=pS p i:=rfl;simp only[pY,dZ,bJ hi,aj,aU hi,g1,g2,af,nz,w,aaF,aU md,pt,Od,ng,Oc,g3,g4,hr1,hr2,dz,Option.map_some];unfold Jx;generalize UI (pS p i)=b1;generalize (((ja p i).l4==(ja p i).mw)==((ja p i).pN==(ja p i).ua))=b2;generalize (ue (ja p i)==ue (ja p ((i+1)%p.length)))=b3;generalize decide (0<i)=b4;generalize UJ (pS p 0) (pS p i)=b5;cases b1<;>cases b2<;>cases b3<;>cases b4<;>cases b5<;>rfl
 .simp only[pY,dZ,bU,ak]
theorem IX{p:U bV}(hl:p.length<=1000)(hn:2000<=n){i:Nat}(hi:i<p.length):
 iter (iO (gm p) (i:Int)) n (((i+2:Nat):Int))=some (bif (List.range p.length).any λk=>decide (i+2<=k)&&SY p i k then .inr (.inr (.inr false))else .inl ()):=by
 have st:∀k,k<p.length->iO (gm p) (i:Int) (k:Int)=some (bif SY p i k then .inr (.inr (.inr (.inr false)))else .inl ((k+1:Nat):Int)):=by
  intro k hk;have g1:bo (gm p) (((0:Nat):Int)+(i:Int))=some (ja p i):=by rw[aW (by rw[dZ];exact hi),y7]
  have g2:bo (gm p) (((0:Nat):Int)+(k:Int))=some (ja p k):=by rw[aW (by rw[dZ];exact hk),y7]
  have w:i64.wrap (i64.wrap ((i:Int)+(p.length:Int)) -(k:Int))=((i+p.length -k:Nat):Int):=by rw[dU (x:=(i:Int)+(p.length:Int)),dU (by omega) (by omega)];omega
  have dz:decide (((i+p.length -k:Nat):Int)>1)=decide (i+p.length -k>1):=by rw[jZ,aV,aV];omega
  simp only[iO,dZ,bJ hk,aj,aU hi,aU hk,g1,g2,af,w,dz,Df,Oc,Option.map_some,aK k];unfold SY;cases decide (i+p.length -k>1)<;>cases PT (ja p i) (ja p k)<;>rfl
 have main:∀m k,k+m=p.length->∀f,m<f->iter (iO (gm p) (i:Int)) f (k:Int)=some (bif (List.range p.length).any λj=>decide (k<=j)&&SY p i j then .inr (.inr (.inr false))else .inl ()):=by
  intro m
  induction m with
  |zero=>
   intro k hk f hf;obtain⟨f,rfl⟩:∃g,f=g+1:=⟨f -1,by omega⟩;have:k=p.length:=(by omega);subst this;have e:((List.range p.length).any λj=>decide (p.length<=j)&&SY p i j)=false:=by
    rw[Bool.eq_false_iff];intro h;rw[any_eq_true]at h;obtain⟨j,h1,h2⟩:=h;rw[List.mem_range]at h1;simp only[aL,aV]at h2;omega
   rw[e];refine fD ?_;simp only[iO,dZ,bU,ak]
  |succ m ih=>
   intro k hk f hf;obtain⟨f,rfl⟩:∃g,f=g+1:=⟨f -1,by omega⟩;have hkl:k<p.length:=(by omega);have h1:=st k hkl;cases hb:SY p i k with
   |true=>
    rw[hb]at h1;have e:((List.range p.length).any λj=>decide (k<=j)&&SY p i j)=true:=by
     rw[any_eq_true];exact⟨k,List.mem_range.2 hkl,by simp[hb]⟩
    rw[e];exact fD h1
   |false=>
    rw[hb]at h1;rw[gY h1,ih (k+1) (by omega) f (by omega)];congr 2;rw[jZ,any_eq_true,any_eq_true];constructor
    .rintro⟨j,j1,j2⟩;simp only[aL,aV]at j2;exact⟨j,j1,by simp only[aL,aV];exact⟨by omega,j2.2⟩⟩
    .rintro⟨j,j1,j2⟩;simp only[aL,aV]at j2;refine⟨j,j1,?_⟩;simp only[aL,aV];refine⟨?_,j2.2⟩;rcases Nat.lt_or_ge k j with h |h
     .omega
     .have:j=k:=(by omega);subst this;rw[hb]at j2;simp at j2
 by_cases h2:i+2<=p.length
 .exact main (p.length -(i+2)) (i+2) (by omega) n (by omega)
 .obtain⟨n,rfl⟩:∃g,n=g+1:=⟨n -1,by omega⟩;have e:((List.range p.length).any λj=>decide (i+2<=j)&&SY p i j)=false:=by
   rw[Bool.eq_false_iff];intro h;rw[any_eq_true]at h;obtain⟨j,h1,h2⟩:=h;rw[List.mem_range]at h1;simp only[aL,aV]at h2;omega
  rw[e];have d:decide (((i+2:Nat):Int)<(p.length:Int))=false:=by rw[dP];omega
  refine fD ?_;simp only[iO,dZ,d,ak]
theorem IY{p:U bV}(hl:p.length<=1000)(hn:2000<=n):iter (p8 n (gm p)) n (0:Int)=some (bif (List.range p.length).any λi=>(List.range p.length).any λk=>decide (i+2<=k)&&SY p i k then .inr false else .inl ()):=by
 refine IV p.length _ () false (λ i hi=>?_) ?_ n (by omega)
 .have w2:i64.wrap ((i:Int)+2)=((i+2:Nat):Int):=by rw[dU (by omega) (by omega)];omega
  simp only[p8,dZ,bJ hi,aj,w2,IX hl hn hi,aK i];cases (List.range p.length).any λk=>decide (i+2<=k)&&SY p i k<;>rfl
 .simp only[p8,dZ,bU,ak]
theorem Qo(p:U bV)(hn:2000<=n):vJ n p=some (Qm p):=by
 unfold vJ Qm;by_cases h4:p.length<4
 .have d1:decide ((p.length:Int)<4)=true:=by simp;omega
  have d2:decide (4<=p.length)=false:=by simp;omega
  rw[d1,d2];rfl
 .have d1:decide ((p.length:Int)<4)=false:=by simp;omega
  have d2:decide (4<=p.length)=true:=by simp;omega
  by_cases h60:p.length>60
  .have d3:decide ((p.length:Int)>60)=true:=(by simp;omega);have d4:decide (p.length<=60)=false:=(by simp;omega);rw[d1,d2,d3,d4];rfl
  .have d3:decide ((p.length:Int)>60)=false:=(by simp;omega);have d4:decide (p.length<=60)=true:=(by simp;omega);have g:bo (gm p) (((0:Nat):Int)+0)=some (ja p 0):=by
    have:=aW (l:=gm p) (i:=0) (by rw[dZ];omega);rw[y7]at this;exact this
   have i0:cN 0 (gm p).length=true:=by
    have:=aU (i:=0) (n:=(gm p).length) (by rw[dZ];omega);simpa using this
   rw[d1,d2,d3,d4];simp only[ak,af,AL (n:=n) (p:=p) (by omega) (by omega),IW (n:=n) (p:=p) (by omega) hn,Bool.true_and];cases (List.range p.length).any (Jx p)with
   |true=>rfl
   |false=>
    simp only[ak,eG,IY (n:=n) (p:=p) (by omega) hn];cases (List.range p.length).any λi=>(List.range p.length).any λk=>decide (i+2<=k)&&SY p i k with
    |true=>rfl
    |false=>
     simp only[ak,eG,i0,aj,g,af,ng];rfl
def Bn(p:U bV)(x:Int):U Int:=((gm p).filter λs=>!ue s&&(decide (min s.l4 s.mw<=x)&&decide (x<max s.l4 s.mw))).map (·.pN)
def Dh(x0 x1:Int):U Int->U ax
 |a::b::l=>⟨x0,a,x1,b⟩::Dh x0 x1 l
 |_=>[]
def nr(p:U bV):U Int:=Gk (p.map (·.x))
def Xm(p:U bV):U ax:=(iZ (λ a b=>Dh a b (j6 ot (Bn p a))) (nr p)).flatten
def xZ(p:U bV):U ax×Int:=if Qm p=true then(if (Xm p).length>200 then([],6)else(Xm p,0))else([],10)
theorem ag9{p:U bV}(h:Qm p=true):4<=p.length/\p.length<=60:=by
 unfold Qm at h;simp only[aL,aV]at h;exact⟨h.1,h.2.1⟩
theorem F9{p:U bV}(hl:p.length<=1000)(hn:2000<=n):iter (lG p) n ((0:Int),([]:U Int))=some (p.map (·.x)):=by
 have:=fA (l:=p) (step:=lG p) (λ i (s:List Int)=>((i:Int),s)) (λ r s=>s++[r.x]) (λ s=>s) (λ i s=>s.length<=i)
  (λ i hi s hs=>?_) (λ s hs=>by simp[lG]) n (by omega) [] (aD _)
 .rw[show ((0:Nat):Int)=0 from rfl]at this;rw[this];have gen:∀(ys:U bV)(s:U Int),ys.foldl (λ s r=>s++[r.x]) s=s++ys.map (·.x):=by
   intro ys
   induction ys with
   |nil=>intro s;simp
   |cons y ys ih=>intro s;rw[foldl_cons,ih];simp
  congr 1;simpa using gen p []
 .have ap:bP s.length s.length (sub ([(p[i]).x]:U Int) 0 1).length 1 8=true:=cZ (n:=1);simp only[lG,bJ hi,aj,bf hi,af,ap,dO,aC];refine⟨?_,by simp;omega⟩;rw[bL (by omega)];rfl
theorem Ga{p:U bV}(hl:p.length<=1000)(hn:2000<=n)(es:U Int)(i:Nat)(hi:i<es.length):iter (lH ((),es) (gm p) (i:Int)) n ((0:Int),([]:U Int))=some (Bn p es[i]):=by
 have:=fA (l:=gm p) (step:=lH ((),es) (gm p) (i:Int)) (λ i (s:List Int)=>((i:Int),s)) (λ r s=>bif !ue r&&(decide (min r.l4 r.mw<=es[i])&&decide (es[i] <max r.l4 r.mw))then s++[r.pN]else s) (λ s=>s) (λ i s=>s.length<=i)
  (λ j hj s hs=>?_) (λ s hs=>by simp[lH]) n (by rw[dZ];omega) [] (aD _)
 .rw[show ((0:Nat):Int)=0 from rfl]at this;rw[this];have gen:∀(ys:U jr)(s:U Int),ys.foldl (λ s r=>bif !ue r&&(decide (min r.l4 r.mw<=es[i])&&decide (es[i] <max r.l4 r.mw))then s++[r.pN]else s) s=s++(ys.filter λs=>!ue s&&(decide (min s.l4 s.mw<=es[i])&&decide (es[i] <max s.l4 s.mw))).map (·.pN):=by
   intro ys
   induction ys with
   |nil=>intro s;simp
   |cons y ys ih=>
    intro s;rw[foldl_cons,ih,List.filter_cons];cases !ue y&&(decide (min y.l4 y.mw<=es[i])&&decide (es[i] <max y.l4 y.mw))<;>simp
  congr 1;exact gen (gm p) []
 .rw[dZ]at hj;have g:bo (gm p) (((0:Nat):Int)+(j:Int))=some (gm p)[j]:=aW (by rw[dZ];exact hj);have ap:bP s.length s.length (sub ([((gm p)[j]'(by rw[dZ];exact hj)).pN]:U Int) 0 1).length 1 8=true:=cZ (n:=1);generalize hr:(gm p)[j]'(by rw[dZ];exact hj)=r at*;simp only[lH,dZ,bJ hj,aj,aU hj,g,af,ng,aU hi,aW hi,Oc,ap,dO,aC,aK j];cases ue r<;>cases decide (min r.l4 r.mw<=es[i])<;>cases decide (es[i] <max r.l4 r.mw)<;>refine⟨rfl,?_⟩<;>simp<;>omega
theorem aaI(x0 x1:Int):∀l:U Int,(Dh x0 x1 l).length<=l.length
 |[]=>by simp[Dh]
 |[_]=>by simp[Dh]
 |a::b::l=>by have:=aaI x0 x1 l;simp only[Dh,bC];omega
theorem Gc(es:U Int)(i:Nat)(hi:i+1<es.length)(he:es.length<=10000)(w2 r8:U Int)(hw:w2.length=r8.length)(hr:r8.length<=1000)(ab:U ax)(ho:ab.length<=10000000)(hn:2000<=n):
 iter (je ((),es) (i:Int) w2 r8) n ((0:Int),ab)=some (ab++Dh (es[i]'(by omega)) es[i+1] r8):=by
 have main:∀(m k:Nat)(ab:U ax),k+m=r8.length->ab.length<=10000000+k->∀f,m<f->iter (je ((),es) (i:Int) w2 r8) f ((k:Int),ab)=some (ab++Dh (es[i]'(by omega)) es[i+1] (r8.drop k)):=by
  intro m
  induction m using Nat.strongRecOn with
  |ind m ih=>
   intro k ab hk hko f hf;obtain⟨f,rfl⟩:∃g,f=g+1:=⟨f -1,by omega⟩;have w1:i64.wrap ((k:Int)+1)=((k+1:Nat):Int):=bL (by omega);have w3:i64.wrap ((k:Int)+2)=((k+2:Nat):Int):=(by rw[dU (by omega) (by omega)];omega);have w4:i64.wrap ((i:Int)+1)=((i+1:Nat):Int):=bL (by omega);by_cases h2:k+1<r8.length
   .have d:decide (((k+1:Nat):Int)<(w2.length:Int))=true:=(by rw[hw];exact bJ h2);have ap:bP ab.length ab.length (sub ([(ax.mk (es[i]'(by omega)) (r8[k]'(by omega)) es[i+1] r8[k+1])]:U ax) 0 1).length 1 32=true:=cZ (n:=1);have st:je ((),es) (i:Int) w2 r8 ((k:Int),ab)=some (.inl (((k+2:Nat):Int),ab++[ax.mk (es[i]'(by omega)) (r8[k]'(by omega)) es[i+1] r8[k+1]])):=by
     simp only[je,w1,w3,w4,d,aj,aU (show i<es.length by omega),aW (show i<es.length by omega),af,aU (show k<w2.length by omega),aW (show k<r8.length by omega),aU hi,aW hi,aU (show k+1<w2.length by omega),aW h2,ap,dO,aC];rfl
    have dr:r8.drop k=r8[k]::r8[k+1]::r8.drop (k+2):=(by rw[List.drop_eq_getElem_cons (by omega),List.drop_eq_getElem_cons h2]);rw[gY st,ih (m -2) (by omega) (k+2) _ (by omega) (by rw[dM,length_singleton];omega) f (by omega),dr];simp[Dh]
   .have d:decide (((k+1:Nat):Int)<(w2.length:Int))=false:=(by rw[hw,dP];omega);have e:Dh (es[i]'(by omega)) es[i+1] (r8.drop k)=[]:=by
     have hl:(r8.drop k).length<=1:=by rw[length_drop];omega
     match r8.drop k,hl with
     |[],_=>rfl
     |[_],_=>rfl
     |_::_::_,h=>simp at h
    rw[e,append_nil];refine fD ?_;simp only[je,w1,d,ak,aC,aj]
 have:=main r8.length 0 ab (by omega) (by omega) n (by omega);rw[show ((0:Nat):Int)=0 from rfl,List.drop_zero]at this;exact this
theorem aol(p:U bV):(nr p).length<=p.length:=by
 have h:=rC (j6 ot (p.map (·.x)));rw[eT,length_map]at h;exact h
theorem Xn(p:U bV)(x:Int):(Bn p x).length<=p.length:=by
 unfold Bn;rw[length_map,<- dZ p];exact length_filter_le _ _
theorem IZ{α:Type}(b:Nat):∀l:U (List α),(∀ x∈l,x.length<=b)->l.flatten.length<=l.length*b
 |[],_=>by simp
 |x::l,h=>by
  have h1:=IZ b l λy hy=>h y (eH _ hy);have h2:=h x List.mem_cons_self;rw[List.flatten_cons,dM,bC,Nat.add_mul];omega
theorem Gd{p:U bV}(hl:p.length<=1000)(hn:2000<=n):
 iter (lI n ((),nr p) (gm p)) n ((0:Int),([]:U ax))=some (Xm p):=by
 have hx:=aol p;obtain⟨p1,p2⟩:=rT (λ a b=>Dh a b (j6 ot (Bn p a))) (nr p)
 let C:=iZ (λ a b=>Dh a b (j6 ot (Bn p a))) (nr p)
 have hC:C.length=(nr p).length -1:=p1;have cl:∀c∈C,c.length<=1000:=by
  intro c hc;obtain⟨i,hi,rfl⟩:=mem_iff_getElem.1 hc;have:=p2 i (by omega) hi;show(C[i]).length<=1000;rw[show C[i]=_ from this];have h1:=aaI (nr p)[i] (nr p)[i+1] (j6 ot (Bn p (nr p)[i]));rw[eT]at h1;have h2:=Xn p (nr p)[i];omega
 have bl:∀i,((C.take i).flatten).length<=1000*1000:=by
  intro i;have h1:=IZ 1000 (C.take i) λx hx=>cl x (List.mem_of_mem_take hx);have h2:(C.take i).length<=1000:=by rw[length_take];omega
  exact Nat.le_trans h1 (Nat.mul_le_mul_right _ h2)
 have main:=mJ (step:=lI n ((),nr p) (gm p)) (λ i=>((i:Int),(C.take i).flatten)) C.length (Xm p) (λ i hi=>?_) ?_ n (by omega)
 .simpa using main
 .have hi2:i+1<(nr p).length:=by omega
  have hw:i64.wrap ((((nr p).length:Nat):Int) -1)=(C.length:Int):=by rw[dU (by omega) (by omega)];omega
  have bi:=bl i;have cr:=Xn p (nr p)[i];have e:C.take (i+1)=C.take i++[Dh (nr p)[i] (nr p)[i+1] (j6 ot (Bn p (nr p)[i]))]:=by
   rw[iJ hi];congr 2;exact p2 i hi2 hi
  simp only[lI,hw,bJ hi,aj,length_nil,aC,Ga hl hn (nr p) i (by omega),af];rw[pI (by omega) (by omega)];simp only[af];rw[Gc (nr p) i hi2 (by omega) (Bn p (nr p)[i]) (j6 ot (Bn p (nr p)[i])) (by rw[eT]) (by rw[eT];omega) _ (by omega) hn];simp only[af,aC,aj,e,List.flatten_append,List.flatten_cons,List.flatten_nil,append_nil,aK i]
 .have hw:i64.wrap ((((nr p).length:Nat):Int) -1)=(((nr p).length:Nat):Int) -1:=dU (by omega) (by omega);have d:decide ((C.length:Int)<(((nr p).length:Nat):Int) -1)=false:=by rw[dP];omega
  simp only[lI,hw,d,ak,aC,aj,List.take_length];rfl
theorem Oq(p:U bV)(hn:2000<=n):tJ n p=some (xZ p):=by
 unfold tJ xZ;rw[Qo p hn];simp only[af];cases hr:Qm p with
 |false=>rfl
 |true=>
  have⟨_,hl⟩:=ag9 hr;simp only[Bool.not_true,ak,length_nil,aC,aj,F9 (n:=n) (p:=p) (by omega) hn,af,if_true];rw[pI (by rw[length_map];omega) (by rw[length_map];omega)];simp only[af,eT,aC,aj];rw[uy (by rw[eT,length_map];omega) (by rw[eT,length_map];omega)];simp only[af,AL (n:=n) (p:=p) (by omega) (by omega)];have hE:gF (j6 ot (p.map (·.x)))=nr p:=rfl;rw[hE,Gd (by omega) hn];simp only[af,bX,aC,aj];by_cases rb:(Xm p).length>200
  .have:decide ((((Xm p).length:Nat):Int)>200)=true:=(by simp;omega);rw[this,aX rb];rfl
  .have:decide ((((Xm p).length:Nat):Int)>200)=false:=(by simp;omega);rw[this,aS rb];rfl
theorem aeH(p:U bV):(xZ p).1.length<=200:=by
 unfold xZ;split
 .split
  .simp
  .simp;omega
 .simp
def aqg(a b:ax):Int:=bif(!eI a || !eI b)then -1 else max (max 0 (i64.wrap ((max a.x0 b.x0) -(min a.x1 b.x1)))) (i64.wrap ((max a.y0 b.y0) -(min a.y1 b.y1)))
theorem amh(a b:ax):OK a b=some (aqg a b):=by
 unfold OK aqg;rw[iQ,iQ];simp only[af];cases eI a<;>cases eI b<;>rfl
def W0:cK:=cK.mk 0 0 [] []
def mR(land:U cK)(id:Int):cK×Bool:=match land.find? λt=>t.id==id with
 |some t=>(t,true)
 |none=>(W0,false)
theorem Xo{α:Type}(p:α->Bool)(l:U α):(∃ (i:Nat) (h:i<l.length),nX p l=some i/\l.find? p=some l[i])\/(nX p l=none/\l.find? p=none):=by
 rcases Eu p l with ⟨i,hi,h1,h2,h3⟩ |⟨h1,h2⟩
 .refine .inl ⟨i,hi,h1,?_⟩;rw[List.find?_eq_some_iff_getElem];exact⟨h2,i,hi,rfl,λj hj=>by simpa using h3 j hj⟩
 .refine .inr ⟨h1,?_⟩;rw[List.find?_eq_none];intro x hx;rw[h2 x hx];simp
def aqh(t:dh)(name:ByteArray):Int:=match t.rows.find? λe=>ByteArray.toList e.name==ByteArray.toList name with
 |some e=>e.n
 |none=>t.sm
theorem Xp{α:Type}(p:α->Bool)(l:U α):(∃ (i:Nat) (h:i<l.length),wW p l=(i:Int)/\l.find? p=some l[i])\/(wW p l= -1/\l.find? p=none):=by
 rcases Xo p l with ⟨i,hi,h1,h2⟩ |⟨h1,h2⟩
 .exact .inl ⟨i,hi,by simp[wW,h1],h2⟩
 .exact .inr ⟨by simp[wW,h1],h2⟩
def amj:U ByteArray:=[⟨#[104,111,109,101]⟩,⟨#[115,104,111,112]⟩,⟨#[119,111,114,107]⟩,⟨#[112,97,114,107]⟩,⟨#[112,108,97,110,116]⟩,⟨#[104,97,108,108]⟩]
def nameOf(use:Int):J ByteArray:=bo amj use
theorem Ot{V O:Type}{step:V->J (V⊕O)}(R:Nat->V->Prop)(N:Nat)(Q:O->Prop)(h:∀i v,i<N->R i v->∃v',step v=some (.inl v')/\R (i+1) v')(hN:∀v,R N v->∃o,step v=some (.inr o)/\Q o):
 ∀n,N<n->∀v,R 0 v->∃o,iter step n v=some o/\Q o:=by
 have main:∀k i n v,i+k=N->k<n->R i v->∃o,iter step n v=some o/\Q o:=by
  intro k
  induction k with
  |zero=>
   intro i n v hi hn hR;obtain⟨m,rfl⟩:∃m,n=m+1:=⟨n -1,by omega⟩;have:i=N:=(by omega);subst this;have⟨o,h1,h2⟩:=hN v hR;exact⟨o,fD h1,h2⟩
  |succ k ih=>
   intro i n v hi hn hR;obtain⟨m,rfl⟩:∃m,n=m+1:=⟨n -1,by omega⟩;obtain⟨v',h1,h2⟩:=h i v (by omega) hR;obtain⟨o,h3,h4⟩:=ih (i+1) m v' (by omega) (by omega) h2;exact⟨o,by rw[gY h1,h3],h4⟩
 intro n hn v hR;exact main N 0 n v (by omega) hn hR
def Bo(z:dJ):U ax:=if (xZ z.corners).2=0 then(xZ z.corners).1 else []
theorem Xq(z:dJ):(Bo z).length<=200:=by
 unfold Bo;split
 .exact aeH _
 .simp
theorem FP(z:dJ)(hn:2000<=n):tK n z=some (Bo z):=by
 unfold tK Bo;rw[Oq _ hn];simp only[af,bX,aC,aj];by_cases h:(xZ z.corners).2=0
 .have:((xZ z.corners).2 !=0)=false:=by simp[h]
  rw[this,aX h];rfl
 .have:((xZ z.corners).2 !=0)=true:=by simp[h]
  rw[this,aS h];rfl
def FQ(a b:ax):ax:=⟨max a.x0 b.x0,max a.y0 b.y0,min a.x1 b.x1,min a.y1 b.y1⟩
theorem EZ(a:ax):sw a=some (bif eI a then(a,true)else(⟨0,0,0,0⟩,false)):=by
 unfold sw;rw[iQ];simp only[af,Oc]
theorem y9(a b:ax):sD a b=some (bif eI a&&(eI b&&eI (FQ a b))then(FQ a b,true)else(⟨0,0,0,0⟩,false)):=by
 unfold sD;rw[iQ,iQ];simp only[af,Oc];rw[show ax.mk (max a.x0 b.x0) (max a.y0 b.y0) (min a.x1 b.x1) (min a.y1 b.y1)=FQ a b from rfl,EZ];simp only[af];generalize eI (FQ a b)=c;cases eI a<;>cases eI b<;>cases c<;>rfl
def Lw(r:ax):Int:=i64.wrap (i64.wrap (r.x1 -r.x0)*i64.wrap (r.y1 -r.y0))
theorem Di{r:ax}(h:eI r=true):pE r=some (Lw r):=by
 unfold pE;rw[EZ,h];rfl
def Xr(x:ax)(n:Int)(y:ax):Int:=bif eI x&&(eI y&&eI (FQ x y))then i64.wrap (n+Lw (FQ x y))else n
def AO(a b:U ax):Int:=a.foldl (λ n x=>b.foldl (Xr x) n) 0
theorem aom{α β:Type}(c:Bool)(a:α)(u v:β):(bif c then(a,u)else(a,v)).1=a:=by cases c<;>rfl
theorem I4(b:U ax)(x:ax)(hb:b.length<=1000)(hn:2000<=n)(m u v:Int):∃o,iter (p9 n b x) n (m,(0:Int),u,v)=some o/\o.1=b.foldl (Xr x) m:=by
 refine Ot (λ i (w:Int×Int×Int×Int)=>w.2.1=(i:Int)/\w.1=(b.take i).foldl (Xr x) m) b.length (λ (o:Int×Int×Int)=>o.1=b.foldl (Xr x) m) (λ i w hi hR=>?_) (λ w hR=>?_) n (by omega) _ ⟨rfl,rfl⟩
 .obtain⟨w1,w2,w3,w4⟩:=w;obtain⟨h1,h2⟩:=hR;simp only at h1 h2;subst h1;have e:(b.take (i+1)).foldl (Xr x) m=Xr x w1 b[i]:=by rw[iJ hi,List.foldl_append,<- h2];rfl
  simp only[p9,bJ hi,aj,bf hi,af,y9];have e0:Xr x w1 b[i]=bif eI x&&(eI b[i]&&eI (FQ x b[i]))then i64.wrap (w1+Lw (FQ x b[i]))else w1:=rfl;rw[e0]at e;cases hc:eI x&&(eI b[i]&&eI (FQ x b[i]))with
  |false=>
   rw[hc]at e;simp only[ak,Bool.not_false,aj,af];exact⟨_,rfl,bL (by omega),e.symm⟩
  |true=>
   rw[hc]at e;have hcc:eI (FQ x b[i])=true:=by
    revert hc;generalize eI (FQ x b[i])=c;cases c
    .cases eI x<;>cases eI b[i]<;>simp
    .simp
   simp only[aj,Bool.not_true,ak,Di hcc,af,kC];rw[show ∀u v:Int,sub [u,v] 0 2=[u,v]from λ_ _=>rfl,Xe _ _ (by omega)];simp only[af,Oc];simp only[show ∀u v:Int,aE [u,v].length 2=true from λ_ _=>rfl,aj,af];refine⟨_,rfl,aK i,?_⟩;rw[e];exact aom _ _ _ _
 .obtain⟨w1,w2,w3,w4⟩:=w;obtain⟨h1,h2⟩:=hR;simp only at h1 h2;subst h1;simp only[p9,bU,ak];exact⟨_,rfl,by rw[h2,List.take_length]⟩
theorem Dj(a b:U ax)(ha:a.length<=1000)(hb:b.length<=1000)(hn:2000<=n):∃q,qH n a b=some (AO a b,q):=by
 unfold qH;obtain⟨o,h1,h2⟩:=Ot (step:=qa n a b) (λ i (w:Int×Int×Int×Int)=>w.2.1=(i:Int)/\w.1=(a.take i).foldl (λ n x=>b.foldl (Xr x) n) 0) a.length (λ (o:Int×Int×Int)=>o.1=AO a b) (λ i w hi hR=>by
  obtain⟨w1,w2,w3,w4⟩:=w;obtain⟨h1,h2⟩:=hR;simp only at h1 h2;subst h1;have⟨o,g1,g2⟩:=I4 (n:=n) b a[i] hb hn w1 w3 w4;obtain⟨o1,o2,o3⟩:=o;simp only[qa,bJ hi,aj,bf hi,af,g1];refine⟨_,rfl,bL (by omega),?_⟩;simp only at g2;rw[iJ hi,List.foldl_append,<- h2,g2];rfl) (λ w hR=>by
  obtain⟨w1,w2,w3,w4⟩:=w;obtain⟨h1,h2⟩:=hR;simp only at h1 h2;subst h1;simp only[qa,bU,ak];exact⟨_,rfl,by rw[h2,List.take_length];rfl⟩) n (by omega) (0,0,1048576,0) ⟨rfl,rfl⟩
 obtain⟨o1,o2,o3⟩:=o;simp only at h2;subst h2;exact⟨_,by rw[h1];rfl⟩
def yc(zs:U dJ)(area:U ax):U Int:=bif c7 area then zs.map λz=>AO area (Bo z)else []
theorem Qp(p:bS)(a:U ax)(hz:p.zones.length<=100)(ha:a.length<=900)(hn:2000<=n):vL n p a=some (yc p.zones a):=by
 unfold vL yc;rw[lY (by omega) (by omega) (by omega)];simp only[af];cases c7 a with
 |false=>rfl
 |true=>
  have:=fA (l:=p.zones) (step:=qb n p a) (λ i (s:List Int)=>((i:Int),s)) (λ z s=>s++[AO a (Bo z)]) (λ s=>s) (λ i s=>s.length<=i)
   (λ i hi s hs=>?_) (λ s hs=>by simp[qb]) n (by omega) [] (aD _)
  .rw[show ((0:Nat):Int)=0 from rfl]at this;simp only[Bool.not_true,ak,length_nil,aC,aj,this,af,bX];congr 1;have gen:∀(ys:U dJ) (s:U Int),ys.foldl (λ s z=>s++[AO a (Bo z)]) s=s++ys.map λz=>AO a (Bo z):=by
    intro ys
    induction ys with
    |nil=>intro s;simp
    |cons y ys ih=>intro s;rw[foldl_cons,ih];simp
   exact gen p.zones []
  .have cl:=Xq p.zones[i];obtain⟨q,hq⟩:=Dj (n:=n) a (Bo p.zones[i]) (by omega) (by omega) hn;have ap:bP s.length s.length (sub ([AO a (Bo p.zones[i])]:U Int) 0 1).length 1 8=true:=cZ (n:=1);simp only[qb,bJ hi,aj,bf hi,af,FP _ hn,bX,aC,hq,ap,dO];refine⟨?_,by simp;omega⟩;rw[bL (by omega)];rfl
theorem Sb(zs:U dJ)(a:U ax):(yc zs a).length<=zs.length:=by
 unfold yc;cases c7 a<;>simp
def xB(zs:U dJ)(l:U Int)(m:Nat):Int:=(List.range m).foldl (λ (b:Int) i=>if (!((zs.getD i ⟨⟨#[]⟩,false,[]⟩).overlay)&&(decide (l.getD i 0>0)&&(decide (b<0) || decide (l.getD i 0>l.getD b.toNat 0))))=true then(i:Int)else b) (-1)
def E5(zs:U dJ)(l:U Int)(i:Nat):Bool:=decide ((i:Int)=xB zs l l.length) || ((zs.getD i ⟨⟨#[]⟩,false,[]⟩).overlay&&decide (l.getD i 0>0))
def E4(zs:U dJ)(area:U ax):U ByteArray:=((List.range (yc zs area).length).filter (E5 zs (yc zs area))).map λi=>(zs.getD i ⟨⟨#[]⟩,false,[]⟩).name
theorem Sc(zs:U dJ)(l:U Int):∀m,xB zs l m= -1\/∃k:Nat,k<m/\xB zs l m=(k:Int)
 | 0=> .inl rfl
 |m+1=>by
  have ih:=Sc zs l m;unfold xB;rw[List.range_succ,List.foldl_append];simp only[foldl_cons,List.foldl_nil];split
  .exact .inr ⟨m,by omega,rfl⟩
  .rcases ih with h |⟨k,h1,h2⟩
   .exact .inl h
   .exact .inr ⟨k,by omega,h2⟩
theorem I5{α:Type}{l:U α}{i:Nat}(d:α)(h:i<l.length):l.getD i d=l[i]:=by simp[h]
theorem Qq(p:bS)(l:U Int)(hl:l.length<=p.zones.length)(hz:p.zones.length<=100)(hn:2000<=n):iter (qc p l) n (((-1):Int),(0:Int))=some (xB p.zones l l.length):=by
 have main:=mJ (step:=qc p l) (λ i=>(xB p.zones l i,(i:Int))) l.length (xB p.zones l l.length) (λ i hi=>?_) (by simp[qc]) n (by omega)
 .exact main
 .have hz':i<p.zones.length:=by omega
  have e:xB p.zones l (i+1)=if (!(p.zones[i]).overlay&&(decide (l[i]>0)&&(decide (xB p.zones l i<0) || decide (l[i]>l.getD (xB p.zones l i).toNat 0))))=true then(i:Int)else xB p.zones l i:=by
   conv=>lhs;unfold xB
   rw[List.range_succ,List.foldl_append];simp only[foldl_cons,List.foldl_nil,I5 _ hz',I5 _ hi];rfl
  rw[e];rcases Sc p.zones l i with h |⟨k,h1,h2⟩
  .rw[h];have d:decide ((-1:Int)<0)=true:=rfl;simp only[qc,bJ hi,aj,aU hi,aW hi,af,bf hz',d,Oc,Bool.true_or,Bool.and_true,aK i];cases (p.zones[i]).overlay<;>cases decide (l[i]>0)<;>rfl
  .rw[h2];have d:decide ((k:Int)<0)=false:=(by simp);have hk:k<l.length:=(by omega);simp only[qc,bJ hi,aj,aU hi,aW hi,af,bf hz',d,Oc,Bool.false_or,ak,aU hk,aW hk,Int.toNat_natCast,I5 _ hk,aK i];cases (p.zones[i]).overlay<;>cases decide (l[i]>0)<;>cases decide (l[i]>l[k])<;>rfl
theorem Ou(p:bS)(a:U ax)(hz:p.zones.length<=100)(ha:a.length<=900)(hn:2000<=n):sG n p a=some (E4 p.zones a):=by
 unfold sG;have sl:=Sb p.zones a;rw[Qp p a hz ha hn];simp only[af];rw[Qq p _ sl hz hn];simp only[af,length_nil,aC,aj];unfold E4;generalize hL:yc p.zones a=l at*
 have:=fA (l:=List.range l.length) (step:=xM p l (xB p.zones l l.length)) (λ i (s:List ByteArray)=>((i:Int),s)) (λ i s=>bif E5 p.zones l i then s++[(p.zones.getD i ⟨⟨#[]⟩,false,[]⟩).name]else s) (λ s=>s) (λ i s=>s.length<=i)
  (λ i hi s hs=>?_) (λ s hs=>by rw[List.length_range];simp[xM]) n (by rw[List.length_range];omega) [] (aD _)
 .rw[show ((0:Nat):Int)=0 from rfl]at this;simp only[this,af,bX,aC,aj];congr 1;have gen:∀(ys:U Nat)(s:U ByteArray),ys.foldl (λ s i=>bif E5 p.zones l i then s++[(p.zones.getD i ⟨⟨#[]⟩,false,[]⟩).name]else s) s=s++(ys.filter (E5 p.zones l)).map λi=>(p.zones.getD i ⟨⟨#[]⟩,false,[]⟩).name:=by
   intro ys
   induction ys with
   |nil=>intro s;simp
   |cons y ys ih=>
    intro s;rw[foldl_cons,ih,List.filter_cons];cases E5 p.zones l y<;>simp
  exact gen (List.range l.length) []
 .rw[List.length_range]at hi;have hz':i<p.zones.length:=by omega
  rw[List.getElem_range];have ap:bP s.length s.length (sub ([(p.zones[i]).name]:U ByteArray) 0 1).length 1 16=true:=cZ (n:=1);have hb:((i:Int)==xB p.zones l l.length)=decide ((i:Int)=xB p.zones l l.length):=by rw[jZ];simp
  simp only[xM,bJ hi,aj,aU hi,aW hi,af,bf hz',hb,Oc,ap,dO,aC,E5,I5 _ hz',I5 _ hi,aK i];cases decide ((i:Int)=xB p.zones l l.length)<;>cases (p.zones[i]).overlay<;>cases decide (l[i]>0)<;>refine⟨rfl,?_⟩<;>simp<;>omega
theorem aon(zs:U dJ)(a:U ax):(E4 zs a).length<=zs.length:=by
 unfold E4;rw[length_map];have h1:=length_filter_le (E5 zs (yc zs a)) (List.range (yc zs a).length);rw[List.length_range]at h1;have:=Sb zs a;omega
def lv(a b:ByteArray):Bool:=ByteArray.toList a==ByteArray.toList b
theorem uO{l:U ByteArray}{a:ByteArray}(hl:l.length<1099511627776)(hn:l.length<n):fI n l a=some (l.any (lv a)):=by
 unfold fI;have e:q9 n l a=abN n (λ x=>ByteArray.toList a==ByteArray.toList x) l:=by kernel_rfl
 rw[e,RX hl hn,af,xH];rfl
theorem qi{l:U ByteArray}{φ:(ByteArray×Unit)->J Bool}(p:ByteArray->Bool)(h:∀x∈l,φ (x,())=some (p x))(hl:l.length<1099511627776)(hn:l.length<n):fK n l φ=some (l.any p):=by
 unfold fK;have e:qp n l φ=wC n l φ:=by kernel_rfl
 rw[e,fJ p h hl hn,af,xH]
def UK(r:bI)(zs:U ByteArray):Bool:=(decide (r.zones=[]) || r.zones.any λz=>zs.any (lv z))&&!(r.except.any λz=>zs.any (lv z))
theorem Qr(r:bI)(zs:U ByteArray)(h1:r.zones.length<=100)(h2:r.except.length<=100)(h3:zs.length<=100)(hn:2000<=n):qI n r zs=some (UK r zs):=by
 have hf:∀x:ByteArray,jU n x zs=some (zs.any (lv x)):=λx=>by unfold jU;rw[uO (by omega) (by omega)];rfl
 unfold qI UK;rw[qi (λ z=>zs.any (lv z)) (λ x _=>hf x) (by omega) (by omega),qi (λ z=>zs.any (lv z)) (λ x _=>hf x) (by omega) (by omega)];simp only[af,Oc];have e:((r.zones.length:Int)==0)=decide (r.zones=[]):=by
  rw[jZ,beq_iff_eq,aV];constructor
  .intro h;exact List.length_eq_zero_iff.1 (by omega)
  .intro h;rw[h];rfl
 rw[e];cases decide (r.zones=[])<;>cases (r.zones.any λz=>zs.any (lv z))<;>cases (r.except.any λz=>zs.any (lv z))<;>rfl
def ni(zs:U ByteArray)(day:Int)(r:bI):Bool:=decide (r.from_<=day)&&((r.js==0 || decide (day<r.js))&&UK r zs)
def za(rules:U bI)(zs:U ByteArray)(day:Int):U Nat:=(List.range rules.length).filter λi=>(rules[i]?).any (ni zs day)
abbrev Qs(r:bI):Prop:=r.zones.length<=100/\r.except.length<=100
theorem FR(p:bS)(zs:U ByteArray)(day:Int)(hr:∀r∈p.rules,Qs r)(hl:p.rules.length<=100)(h3:zs.length<=100)(hn:2000<=n):nL n p zs day=some ((za p.rules zs day).map λ(i:Nat)=>(i:Int)):=by
 unfold nL za
 have:=fA (l:=List.range p.rules.length) (step:=rf n p zs day) (λ i (s:List Int)=>((i:Int),s)) (λ i s=>bif(p.rules[i]?).any (ni zs day)then s++[(i:Int)]else s) (λ s=>s) (λ i s=>s.length<=i)
  (λ i hi s hs=>?_) (λ s hs=>by rw[List.length_range];simp[rf]) n (by rw[List.length_range];omega) [] (aD _)
 .rw[show ((0:Nat):Int)=0 from rfl]at this;simp only[length_nil,aC,aj,this,af,bX];congr 1;have gen:∀(ys:U Nat)(s:U Int),ys.foldl (λ s (i:Nat)=>bif(p.rules[i]?).any (ni zs day)then s++[(i:Int)]else s) s=s++(ys.filter λi=>(p.rules[i]?).any (ni zs day)).map λ(i:Nat)=>(i:Int):=by
   intro ys
   induction ys with
   |nil=>intro s;simp
   |cons y ys ih=>
    intro s;rw[foldl_cons,ih,List.filter_cons];cases (p.rules[y]?).any (ni zs day)<;>simp
  exact gen (List.range p.rules.length) []
 .rw[List.length_range]at hi;rw[List.getElem_range];obtain⟨o1,o2⟩:=hr _ (getElem_mem hi);have ap:bP s.length s.length (sub ([(i:Int)]:U Int) 0 1).length 1 8=true:=cZ (n:=1);have eg:(p.rules[i]?).any (ni zs day)=ni zs day p.rules[i]:=by rw[dQ hi];rfl
  rw[eg];simp only[rf,bJ hi,aj,bf hi,af,Qr _ zs o1 o2 h3 hn,Oc,ap,dO,aC,ni,aK i];cases decide ((p.rules[i]).from_<=day)<;>cases (p.rules[i]).js==0<;>cases decide (day<(p.rules[i]).js)<;>cases UK p.rules[i] zs<;>refine⟨rfl,?_⟩<;>simp<;>omega
def Xt(p:dW):Bool:=decide (0<=p.side/\p.side<=3)&&(decide (0<=p.base/\p.base<=4096)&&(decide (0<=p.num/\p.num<=4096)&&decide (1<=p.den/\p.den<=4096)))
theorem amk(p:dW):Xt p=true↔(0<=p.side/\p.side<=3)/\(0<=p.base/\p.base<=4096)/\(0<=p.num/\p.num<=4096)/\(1<=p.den/\p.den<=4096):=by simp only[Xt,aL,aV]
theorem Ta(a b c:Int):nP a b c=some (decide (b<=a/\a<=c)):=by
 unfold nP;by_cases h1:b<=a
 .have d:decide (b<=a)=true:=by simpa using h1
  rw[d,aj];congr 1;rw[jZ];simp[h1]
 .have d:decide (b<=a)=false:=by simpa using h1
  rw[d,ak];congr 1;rw[jZ];simp[h1]
theorem Xu(p:dW):Ap p=some (Xt p):=by
 unfold Ap Xt;simp only[Ta,af,Oc];generalize decide (0<=p.side/\p.side<=3)=a;generalize decide (0<=p.base/\p.base<=4096)=b;generalize decide (0<=p.num/\p.num<=4096)=c;cases a<;>cases b<;>cases c<;>rfl
theorem Bp{l:U dW}{φ:(dW×Unit)->J Bool}(p:dW->Bool)(h:∀x∈l,φ (x,())=some (p x))(hl:l.length<1099511627776)(hn:l.length<n):kG n l φ=some (l.any p):=by
 unfold kG;have e:rO n l φ=wC n l φ:=by kernel_rfl
 rw[e,fJ p h hl hn,af,xH]
def E8(b:ax)(l:U dW):Bool:=eI b&&!(l.any λp=>!Xt p)
theorem Xv(b:ax)(l:U dW)(hl:l.length<=1000)(hn:2000<=n):Aq n b l=some (E8 b l):=by
 unfold Aq E8;rw[iQ,Bp (λ p=>!Xt p) (λ p _=>by show tX p=_;unfold tX;rw[Xu];rfl) (by omega) (by omega)];simp only[af,Oc];cases eI b<;>rfl
theorem aha{a n:Int}(hn:0<n):(if Int.tmod a n<0 then Int.tdiv a n -1 else Int.tdiv a n)=a/n:=by
 have h1:=Int.mul_ediv_add_emod a n;have h2:=Int.emod_nonneg a (by omega:n≠0);have h3:=Int.emod_lt_of_pos a hn;rcases Int.le_total 0 a with h |h
 .have e1:Int.tmod a n=a%n:=Int.tmod_eq_emod_of_nonneg h;have e2:Int.tdiv a n=a/n:=Int.tdiv_eq_ediv_of_nonneg h;rw[e1,e2,aS (by omega)]
 .obtain⟨b,rfl⟩:∃b,a= -b:=⟨-a,by omega⟩;have hb:0<=b:=by omega
  have e1:Int.tmod (-b) n= -(b%n):=by rw[Int.neg_tmod,Int.tmod_eq_emod_of_nonneg hb]
  have e2:Int.tdiv (-b) n= -(b/n):=by rw[Int.neg_tdiv,Int.tdiv_eq_ediv_of_nonneg hb]
  have g1:=Int.mul_ediv_add_emod b n;have g2:=Int.emod_nonneg b (by omega:n≠0);have g3:=Int.emod_lt_of_pos b hn;rw[e1,e2];by_cases hm:b%n=0
  .rw[aS (by omega)];have:(-b)/n= -(b/n):=by
    refine(Int.ediv_eq_iff_of_pos hn).2 ?_;constructor
    .rw[Int.neg_mul,Int.mul_comm (b/n)];omega
    .rw[Int.neg_mul,Int.mul_comm (b/n)];omega
   omega
  .rw[aX (by omega)];have:(-b)/n= -(b/n) -1:=by
    refine(Int.ediv_eq_iff_of_pos hn).2 ?_;constructor
    .rw[Int.sub_mul,Int.neg_mul,Int.mul_comm (b/n)];omega
    .rw[Int.sub_mul,Int.neg_mul,Int.mul_comm (b/n)];omega
   omega
theorem Ov{a n:Int}(hn:0<n)(ha: -4611686018427387904<=a/\a<=4611686018427387904):tY a n=some (a/n):=by
 have nz:(n !=0)=true:=by simp;omega
 have hb: -4611686018427387904<=a/n/\a/n<=4611686018427387904:=by
  constructor
  .rw[Int.le_ediv_iff_mul_le hn];have: -4611686018427387904*n<= -4611686018427387904:=(by omega);omega
  .rcases Int.le_total 0 a with h |h
   .have:=Int.ediv_le_self n h;omega
   .have:a/n<=0:=by
     have:=(Int.ediv_lt_iff_lt_mul (a:=a) (b:=1) hn).2 (by omega);omega
    omega
 have hf:=aha (a:=a) hn;have ht: -4611686018427387904<=Int.tdiv a n/\Int.tdiv a n<=4611686018427387905:=by split at hf<;>omega
 unfold tY;simp only[nz,aj];rw[dU (x:=Int.tdiv a n),dU (x:=Int.tdiv a n -1),<- hf];by_cases h:Int.tmod a n<0
 .have d:decide (Int.tmod a n<0)=true:=by simpa using h
  rw[d,aX h];rfl
 .have d:decide (Int.tmod a n<0)=false:=by simpa using h
  rw[d,aS h];rfl
def Xw(b:ax)(side x y:Int):Int:=if side=0 then x -b.x0 else if side=1 then b.x1 -1 -x else if side=2 then y -b.y0 else b.y1 -1 -y
def aqi(b:ax)(p:dW)(x y:Int):Int:=p.base+p.num*Xw b p.side x y/p.den
def Y4(b:ax)(l:U dW)(x y:Int):Int:=l.foldl (λ h p=>min h (aqi b p x y)) 4096
abbrev InG(x y:Int):Prop:=(0<=x/\x<1048576)/\(0<=y/\y<1048576)
theorem aeJ{b:ax}(hb:eI b=true){x y:Int}(h:InG x y)(side:Int): -1048576<=Xw b side x y/\Xw b side x y<=1048576:=by
 simp only[eI,aL,aV]at hb;obtain⟨h1,h2⟩:=h;unfold Xw;split
 .omega
 .split
  .omega
  .split<;>omega
theorem akc{a d:Int}(ha:0<=a/\a<=4096)(hd: -1048576<=d/\d<=1048576): -4294967296<=a*d/\a*d<=4294967296:=by
 have h1:a*d<=a*1048576:=Int.mul_le_mul_of_nonneg_left hd.2 ha.1;have h2:a*(-1048576)<=a*d:=Int.mul_le_mul_of_nonneg_left hd.1 ha.1;omega
theorem akd{a n:Int}(hn:0<n)(ha: -4294967296<=a/\a<=4294967296): -4294967296<=a/n/\a/n<=4294967296:=by
 constructor
 .rw[Int.le_ediv_iff_mul_le hn];omega
 .rcases Int.le_total 0 a with h |h
  .have:=Int.ediv_le_self n h;omega
  .have:=(Int.ediv_lt_iff_lt_mul (a:=a) (b:=1) hn).2 (by omega);omega
theorem ab7{b:ax}{l:U dW}{x y:Int}(hb:eI b=true)(hp:∀p∈l,Xt p=true)(h:InG x y)(hl:l.length<=1000)(hn:2000<=n):J4 n b l x y=some (Y4 b l x y):=by
 unfold J4 xg;have hr:=hb;simp only[eI,aL,aV]at hr;obtain⟨h1,h2⟩:=h;rw[dU (x:=x -b.x0),dU (x:=b.x1 -1),dU (x:=b.x1 -1 -x),dU (x:=y -b.y0),dU (x:=b.y1 -1),dU (x:=b.y1 -1 -y)];simp only[af];have:=mW (l:=l) (step:=xS b l x y ⟨x -b.x0,b.x1 -1 -x,y -b.y0,b.y1 -1 -y⟩) (λ i (s:Int)=>(s,(i:Int))) (λ p s=>min s (aqi b p x y)) (λ s=>s) (λ i hi s=>?_) (λ s=>by simp[xS]) n (by omega) 4096
 .rw[show ((0:Nat):Int)=0 from rfl]at this;rw[this];rfl
 .obtain⟨s1,s2,s3,s4⟩:=(amk _).1 (hp _ (getElem_mem hi));have ib:cN (l[i]).side 4=true:=by simp[cN];omega
  have g:bo ([x -b.x0,b.x1 -1 -x,y -b.y0,b.y1 -1 -y]:U Int) (l[i]).side=some (Xw b (l[i]).side x y):=by
   have hs:(l[i]).side=0\/(l[i]).side=1\/(l[i]).side=2\/(l[i]).side=3:=(by omega);rcases hs with e |e |e |e<;>rw[e]<;>simp[bo,Xw]
  have db:=aeJ hb ⟨h1,h2⟩ (l[i]).side;have mb:=akc s3 db;have dv:=akd (n:=(l[i]).den) (by omega) mb;simp only[xS,bJ hi,aj,bf hi,af,ib,g];rw[dU (x:=(l[i]).num*Xw b (l[i]).side x y),Ov (by omega) (by omega)];simp only[af];rw[dU (x:=(l[i]).base+_),bL (by omega)];rfl
theorem aeK(b:ax)(l:U dW):E8 b l=true↔eI b=true/\∀p∈l,Xt p=true:=by
 unfold E8;rw[aL,Bool.not_eq_true',List.any_eq_false];simp
def Fm(x:fT):Bool:=decide (x.z0<0) || (decide (x.z0>=x.z1) || (decide (x.z1>4096) || (decide (x.area=[]) || !c7 x.area)))
def z7(p:J fT×fT):Bool:=Fm p.2 || p.1.any λq=>decide (q.z1>p.2.z0) || (q.z1==p.2.z0&&decide (q.area=p.2.area))
def Bq(s:U fT):U (Option fT×fT):=(none::s.map some).zip s
def E9(s:U fT):Bool:=decide (s.length<=80)&&!((Bq s).any z7)
theorem pK(s:U fT):(Bq s).length=s.length:=by simp[Bq]
theorem Fa{s:U fT}{i:Nat}(h:i<(Bq s).length):(Bq s)[i]=(if h0:i=0 then none else some (s[i -1]'(by rw[pK]at h;omega)),s[i]'(by rw[pK]at h;exact h)):=by
 simp only[Bq,List.getElem_zip,Prod.mk.injEq,and_true];cases i with
 |zero=>simp
 |succ i=>simp
theorem Sd{s:U fT}(ha:∀x∈s,x.area.length<=900)(hn:1000<=n):Iz n s=some (E9 s):=by
 unfold Iz E9;by_cases h80:s.length<=80
 .have d:decide ((s.length:Int)>80)=false:=by simp;omega
  have d2:decide (s.length<=80)=true:=by simpa using h80
  have z:∀l:U ax,(((l.length:Int))==0)=decide (l=[]):=λl=>by cases l<;>simp<;>omega
  have:=rZ (l:=Bq s) (step:=Ar n s) (λ i=>(i:Int)) z7 () (λ _=>false) (λ i hi=>?_) ?_ n (by rw[pK];omega)
  .rw[show ((0:Nat):Int)=0 from rfl]at this;rw[d,d2,this,<- Qn];cases nX z7 (Bq s)<;>rfl
  .rw[Fa];rw[pK]at hi;have hi':decide ((i:Int)<(s.length:Int))=true:=(by simpa using hi);have h1:=ha _ (getElem_mem hi);simp only[Ar,hi',aj,bf hi,af,z,lY (n:=n) (l:=s[i].area) (by omega) (by omega) hn,z7];rw[bL (by omega)];have b:((bif decide (s[i].z0<0)then some true else bif decide (s[i].z0>=s[i].z1)then some true else bif decide (s[i].z1>4096)then some true else bif decide (s[i].area=[])then some true else some (!c7 s[i].area)):J Bool)=some (Fm s[i]):=by
    unfold Fm;cases decide (s[i].z0<0)<;>cases decide (s[i].z0>=s[i].z1)<;>cases decide (s[i].z1>4096)<;>cases decide (s[i].area=[])<;>rfl
   rw[b];simp only[af];cases Fm s[i]with
   |true=>simp[dF]
   |false=>
    by_cases h0:i=0
    .subst h0;have:((((0:Nat):Int))==0)=true:=rfl;simp only[this,aj,ak,eG,dif_pos,Option.any_none,Bool.or_false]
    .have e0:((i:Int)==0)=false:=(by simp;omega);have w:i64.wrap ((i:Int) -1)=((i -1:Nat):Int):=mV (by omega) (by omega);have h2:=ha _ (getElem_mem (show i -1<s.length by omega));simp only[e0,ak,w,bf (show i -1<s.length by omega),af,ag7 (n:=n) (a:=s[i -1].area) (b:=s[i].area) (by omega) (by omega),h0,dif_neg,not_false_eq_true,Option.any_some,Bool.false_or];cases decide (s[i -1].z1>s[i].z0)with
     |true=>simp[dF]
     |false=>
      cases s[i -1].z1==s[i].z0 with
      |false=>simp[dF]
      |true=>cases decide (s[i -1].area=s[i].area)<;>simp[dF]
  .rw[pK];simp[Ar]
 .have d:decide ((s.length:Int)>80)=true:=by simp;omega
  have d2:decide (s.length<=80)=false:=by simpa using h80
  rw[d,d2];rfl
structure aml(x:fT):Prop where
 lo:0<=x.z0
 lt:x.z0<x.z1
 hi:x.z1<=4096
 ne:x.area≠[]
 rt:c7 x.area=true
def aqj(s:U fT):Prop:=∀i (h:i+1<s.length),s[i].z1<=s[i+1].z0/\¬(s[i].z1=s[i+1].z0/\s[i].area=s[i+1].area)
theorem aeM(x:fT):Fm x=false↔aml x:=by
 unfold Fm;simp only[Bool.or_eq_false_iff,dP,Bool.not_eq_false'];constructor
 .rintro⟨h1,h2,h3,h4,h5⟩;exact⟨by omega,by omega,by omega,h4,h5⟩
 .rintro⟨h1,h2,h3,h4,h5⟩;exact⟨by omega,by omega,by omega,h4,h5⟩
theorem Xx(s:U fT):E9 s=true↔s.length<=80/\(∀ x∈s,aml x)/\aqj s:=by
 unfold E9;rw[aL,aV,Bool.not_eq_true',List.any_eq_false];refine and_congr_right λ_=>?_;constructor
 .intro h;have key:∀i (hi:i<s.length),z7 ((Bq s)[i]'(by rw[pK];exact hi))=false:=λi hi=>by
   have:=h _ (getElem_mem (show i<(Bq s).length by rw[pK];exact hi));simpa using this
  refine⟨λ x hx=>?_,λi hi=>?_⟩
  .obtain⟨i,hi,rfl⟩:=mem_iff_getElem.1 hx;have:=key i hi;rw[Fa]at this;unfold z7 at this;rw[Bool.or_eq_false_iff]at this;exact(aeM _).1 this.1
  .have:=key (i+1) hi;rw[Fa]at this;unfold z7 at this;rw[Bool.or_eq_false_iff]at this;have h2:=this.2;simp only[Nat.succ_ne_zero,dif_neg,not_false_eq_true,Option.any_some,Nat.add_sub_cancel,Bool.or_eq_false_iff,dP,Bool.and_eq_false_iff,beq_eq_false_iff_ne]at h2;refine⟨by omega,λ⟨e1,e2⟩=>?_⟩;rcases h2.2 with h3 |h3
   .exact h3 e1
   .exact h3 e2
 .rintro⟨h1,h2⟩ p hp;obtain⟨i,hi,rfl⟩:=mem_iff_getElem.1 hp;rw[Fa];rw[pK]at hi;unfold z7;have hb:=(aeM _).2 (h1 _ (getElem_mem hi));by_cases h0:i=0
  .simp[h0]at hb ⊢;exact hb
  .obtain⟨j,rfl⟩:∃j,i=j+1:=⟨i -1,by omega⟩;have⟨n1,n2⟩:=h2 j hi;simp only[Nat.succ_ne_zero,dif_neg,not_false_eq_true,Option.any_some,Nat.add_sub_cancel];rw[hb];simp only[Bool.false_or,Bool.or_eq_true,aV,aL,beq_iff_eq];rintro (h |h)
   .omega
   .exact n2 h
theorem sJ{l:U fT}{φ:(fT×Unit)->J Bool}(p:fT->Bool)(h:∀x∈l,φ (x,())=some (p x))(hl:l.length<1099511627776)(hn:l.length<n):iX n l φ=some (l.any p):=by
 unfold iX tZ;have:=rZ (l:=l) (step:=lT l φ) (λ i=>(i:Int)) p () (λ i=>(i:Int)) (λ i hi=>?_) (by simp[lT]) n hn
 .rw[show ((0:Nat):Int)=0 from rfl]at this;rw[this,<- Qn];cases nX p l with
  |none=>rfl
  |some i=>simp<;>omega
 .have hi':decide ((i:Int)<(l.length:Int))=true:=by simpa using hi
  simp only[lT,hi',aj,bf hi,af,h _ (getElem_mem hi)];rw[bL (by omega)];cases p l[i]<;>rfl
def My(s:U fT)(lot:Int)(e:kM):Bool:=e.lot==lot&&(c7 e.area&&s.any λc=>decide (c.z1>e.top)&&Ly c.area e.area)
def Lt(l:U kM)(lot:Int)(s:U fT):Bool:=E9 s&&!(l.any (My s lot))
theorem Y5{l:U kM}{lot:Int}{s:U fT}(hl:l.length<=900)(he:∀e∈l,e.area.length<=900)(ha:∀x∈s,x.area.length<=900)(hn:1000<=n):EN n l lot s=some (Lt l lot s):=by
 unfold EN Lt;rw[Sd ha hn];simp only[af];cases hr:E9 s with
 |false=>rfl
 |true=>
 have l80:=((Xx s).1 hr).1;have:=rZ (l:=l) (step:=vO n l lot s) (λ i=>(i:Int)) (My s lot) () (λ _=>false) (λ i hi=>?_) (by simp[vO]) n (by omega)
 .rw[show ((0:Nat):Int)=0 from rfl]at this;simp only[Bool.not_true,ak];rw[this,<- Qn];cases nX (My s lot) l<;>rfl
 .have hi':decide ((i:Int)<(l.length:Int))=true:=by simpa using hi
  have h1:=he _ (getElem_mem hi);have cf:=sJ (n:=n) (l:=s) (φ:=λy:fT×Unit=>qL n y.1 l[i]) (λ c=>decide (c.z1>l[i].top)&&Ly c.area l[i].area) (λ c hc=>by
   have:=ha c hc;show qL n c l[i]=_;unfold qL;rw[ag6 (by omega) (by omega) (by omega) (by omega)];cases decide (c.z1>l[i].top)<;>rfl) (by omega) (by omega)
  simp only[vO,hi',aj,bf hi,af,lY (n:=n) (l:=l[i].area) (by omega) (by omega) hn,cf];rw[bL (by omega)];unfold My;cases h2:l[i].lot==lot with
  |false=>
   have:(l[i].lot !=lot)=true:=(by simp[bne,h2]);simp[this,dF]
  |true=>
   have:(l[i].lot !=lot)=false:=(by simp[bne,h2]);simp only[this,ak,af];cases c7 l[i].area with
   |false=>simp[dF]
   |true=>cases s.any λc=>decide (c.z1>l[i].top)&&Ly c.area l[i].area<;>simp[dF]
theorem aeO(r:ax):eI r=true↔(0<=r.x0/\r.x0<r.x1/\r.x1<=1048576)/\(0<=r.y0/\r.y0<r.y1/\r.y1<=1048576):=by simp only[eI,aL,aV];omega
theorem Kr{b:ax}{l:U dW}(r:ax)(x:Int)(hb:eI b=true)(hp:∀p∈l,Xt p=true)(hr:eI r=true)(hx:0<=x/\x<1048576)(hl:l.length<=1000)(hn:2000<=n)(v:Int):
 iter (oh n b l r x) n (v,(0:Int))=some (min (min v (Y4 b l x r.y0)) (Y4 b l x (r.y1 -1))):=by
 have ho:=(aeO r).1 hr;have w:i64.wrap (r.y1 -1)=r.y1 -1:=dU (by omega) (by omega);have:=mW (l:=[r.y0,r.y1 -1]) (step:=oh n b l r x) (λ i (s:Int)=>(s,(i:Int))) (λ y m=>min m (Y4 b l x y)) (λ s=>s) (λ i hi s=>?_) (λ s=>by simp[oh]) n (by simp;omega) v
 .rw[show ((0:Nat):Int)=0 from rfl]at this;exact this
 .have h2:i<2:=by simpa using hi
  have yb:0<=([r.y0,r.y1 -1]:U Int)[i]/\([r.y0,r.y1 -1]:U Int)[i] <1048576:=by
   rcases i with _ |_ |i
   .simp only[List.getElem_cons_zero];omega
   .simp only[List.getElem_cons_succ,List.getElem_cons_zero];omega
   .omega
  simp only[oh,show decide ((i:Int)<2)=true from decide_eq_true (by omega),bJ h2,aj,aU h2,w,aW hi,af,ab7 hb hp ⟨hx,yb⟩ hl hn,aK i]
def Wk(b:ax)(l:U dW)(v:Int)(r:ax):Int:=min (min (min (min v (Y4 b l r.x0 r.y0)) (Y4 b l r.x0 (r.y1 -1))) (Y4 b l (r.x1 -1) r.y0)) (Y4 b l (r.x1 -1) (r.y1 -1))
theorem Kt{b:ax}{l:U dW}(r:ax)(hb:eI b=true)(hp:∀p∈l,Xt p=true)(hr:eI r=true)(hl:l.length<=1000)(hn:2000<=n)(v:Int):
 iter (om n b l r) n (v,(0:Int))=some (Wk b l v r):=by
 have ho:=(aeO r).1 hr;have w:i64.wrap (r.x1 -1)=r.x1 -1:=dU (by omega) (by omega);have:=mW (l:=[r.x0,r.x1 -1]) (step:=om n b l r) (λ i (s:Int)=>(s,(i:Int))) (λ x m=>min (min m (Y4 b l x r.y0)) (Y4 b l x (r.y1 -1))) (λ s=>s) (λ i hi s=>?_) (λ s=>by simp[om]) n (by simp;omega) v
 .rw[show ((0:Nat):Int)=0 from rfl]at this;exact this
 .have h2:i<2:=by simpa using hi
  have xb:0<=([r.x0,r.x1 -1]:U Int)[i]/\([r.x0,r.x1 -1]:U Int)[i] <1048576:=by
   rcases i with _ |_ |i
   .simp only[List.getElem_cons_zero];omega
   .simp only[List.getElem_cons_succ,List.getElem_cons_zero];omega
   .omega
  simp only[om,show decide ((i:Int)<2)=true from decide_eq_true (by omega),bJ h2,aj,aU h2,w,aW hi,af,Kr r _ hb hp hr xb hl hn,aK i]
def Mu(b:ax)(l:U dW)(a:U ax):Int:=a.foldl (Wk b l) 4096
theorem Td{b:ax}{l:U dW}{a:U ax}(hb:eI b=true)(hp:∀p∈l,Xt p=true)(ha:∀r∈a,eI r=true)(hal:a.length<=1000)(hl:l.length<=1000)(hn:2000<=n):xU n b l a=some (Mu b l a):=by
 unfold xU;have:=mW (l:=a) (step:=ru n b l a) (λ i (s:Int)=>(s,(i:Int))) (λ r m=>Wk b l m r) (λ s=>s) (λ i hi s=>?_) (λ s=>by simp[ru]) n (by omega) 4096
 .rw[show ((0:Nat):Int)=0 from rfl]at this;rw[this];rfl
 .simp only[ru,bJ hi,aj,bf hi,af,Kt a[i] hb hp (ha _ (getElem_mem hi)) hl hn,aK i]
theorem aoq(r:ax):eI r=true↔(0<=r.x0/\r.x0<r.x1/\r.x1<=1048576)/\(0<=r.y0/\r.y0<r.y1/\r.y1<=1048576):=by simp only[eI,aL,aV];omega
abbrev DH(t:cK):Prop:=t.area.length<=900/\t.from_.length*8<=140737488355328
theorem ahc{t:cK}(h:DH t):NU t=some t:=by
 unfold NU;have h2:=h.2;rw[Qh (by omega),af,show EF t.from_=some t.from_ from RY (b:=8) (by omega) (by simp only[maxLen];omega),af];simp only[bX,aC,aj]
theorem akf{land:U cK}{id:Int}(h:∀t∈land,DH t)(hl:land.length<1099511627776)(hn:land.length<n):NV n land id=some (mR land id):=by
 unfold NV;have:=rZ (l:=land) (step:=EG land id) (λ i=>(i:Int)) (λ t=>t.id==id) () (λ i=>(land.getD i W0,true)) (λ i hi=>?_) ?_ n hn
 .rw[show ((0:Nat):Int)=0 from rfl]at this;rw[this];unfold mR;rcases Xo (λ t:cK=>t.id==id) land with ⟨i,hi,h1,h2⟩ |⟨h1,h2⟩
  .rw[h1,h2];simp[hi]
  .rw[h1,h2];rfl
 .simp only[EG,bJ hi,aj,bf hi,af,ahc (h _ (getElem_mem hi))];cases land[i].id==id with
  |true=>simp[hi]
  |false=>simp only[ak];rw[bL (by omega)]
 .simp[EG]
theorem Qt{land:U cK}(h:∀t∈land,DH t)(id:Int):DH (mR land id).1:=by
 unfold mR;split
 .rename_i t ht;exact h t (List.mem_of_find?_eq_some ht)
 .simp[DH,W0]
structure aqD(t:bR):Prop where
 rules:t.az.length<=20
 Q2:∀r∈t.az,Qs r
 zones:t.bu.length<=20
 land:t.land.length<=20
 lots:∀l∈t.land,DH l
 co:t.co.length<=5
 aqH:∀e∈t.co,e.area.length<=10
theorem I6{α:Type}(p:α->Bool):∀l:U α,((List.range l.length).filter λi=>(l[i]?).any p).filterMap (λ i=>l[i]?)=l.filter p
 |[]=>rfl
 |a::l=>by
  have ih:=I6 p l;rw[bC,List.range_succ_eq_map,List.filter_cons,List.filter_cons];have e:(List.filter (λ i=>((a::l)[i]?).any p) (List.map Nat.succ (List.range l.length))).filterMap (λ i=>(a::l)[i]?)=l.filter p:=by
   rw[List.filter_map,List.filterMap_map];exact ih
  cases hp:p a with
  |true=>simp[hp];simpa using e
  |false=>simp[hp];simpa using e
def G0(a r:ax):ax:=⟨min a.x0 r.x0,min a.y0 r.y0,max a.x1 r.x1,max a.y1 r.y1⟩
def aiT:U ax->ax
 |[]=>⟨0,0,0,0⟩
 |r::l=>l.foldl G0 r
def Kc(a:U ax):ax×Bool:=bif decide (a≠[])&&c7 a then(aiT a,true)else(⟨0,0,0,0⟩,false)
theorem aeP{a:U ax}(ha:a≠[])(hv:∀r∈a,eI r=true)(hl:a.length<=900)(hn:2000<=n):NP n a=some (aiT a,true):=by
 unfold NP;have:=mW (l:=a.zip (List.range a.length)) (step:=Ag a) (λ i (s:Bool×Int×Int×Int×Int)=>(s.1,(i:Int),s.2)) (λ p s=>bif !s.1 then(true,p.1.x0,p.1.y0,p.1.x1,p.1.y1)else(s.1,min s.2.1 p.1.x0,min s.2.2.1 p.1.y0,max s.2.2.2.1 p.1.x1,max s.2.2.2.2 p.1.y1)) (λ s=>s) (λ i hi s=>?_) (λ s=>?_) n (by simp;omega) (false,0,0,0,0)
 .rw[show ((0:Nat):Int)=0 from rfl]at this;simp only at this;rw[this];cases a with
  |nil=>exact absurd rfl ha
  |cons r l=>
   have gen:∀(l:U ax) (k:U Nat) (s:ax),l.length<=k.length->(l.zip k).foldl (λ (s:Bool×Int×Int×Int×Int) p=>bif !s.1 then(true,p.1.x0,p.1.y0,p.1.x1,p.1.y1)else(s.1,min s.2.1 p.1.x0,min s.2.2.1 p.1.y0,max s.2.2.2.1 p.1.x1,max s.2.2.2.2 p.1.y1)) (true,s.x0,s.y0,s.x1,s.y1)=(true,(l.foldl G0 s).x0,(l.foldl G0 s).y0,(l.foldl G0 s).x1,(l.foldl G0 s).y1):=by
    intro l
    induction l with
    |nil=>intro k s _;rfl
    |cons r l ih=>
     intro k s hk;cases k with
     |nil=>simp at hk
     |cons j k=>
      rw[List.zip_cons_cons,foldl_cons,foldl_cons];exact ih k (G0 s r) (by simpa using hk)
   rw[bC,List.range_succ_eq_map,List.zip_cons_cons,foldl_cons];simp only[Bool.not_false,aj];rw[gen l _ r (by simp)];rfl
 .have hi':i<a.length:=by simpa using hi
  obtain⟨s1,s2,s3,s4,s5⟩:=s;have ok:=hv _ (getElem_mem hi');simp only[Ag,bJ hi',aj,bf hi',af,iQ,ok,Bool.not_true,ak,Oc,List.getElem_zip,aK i]
 .obtain⟨s1,s2,s3,s4,s5⟩:=s;have:(a.zip (List.range a.length)).length=a.length:=by simp
  simp only[this,Ag,bU,ak]
theorem Ow(a:U ax)(hl:a.length<=900)(hn:2000<=n):CX n a=some (Kc a):=by
 unfold CX Kc;cases a with
 |nil=>rfl
 |cons r l=>
  have e:((((r::l).length:Nat):Int)==0)=false:=by simp;omega
  have e2:decide (r::l≠[])=true:=by simp
  rw[lY (by omega) (by omega) (by omega),e,e2];simp only[ak,af,Bool.true_and];cases hr:c7 (r::l)with
  |false=>rfl
  |true=>
   simp only[Bool.not_true,ak];rw[aeP (by simp) (uD hr).1 hl hn];rfl
theorem qf{V O:Type}{step:V->J (V⊕O)}(f:Nat->V){s:V}(N:Nat)(o:O)(h0:s=f 0)
 (h1:∀i,i<N->step (f i)=some (.inl (f (i+1)))) (h2:step (f N)=some (.inr o)) (n:Nat) (hn:N<n):iter step n s=some o:=by rw[h0];exact mJ f N o h1 h2 n hn
def tb(f:Nat->Nat->Bool):U Bool:=(List.range 144).map λi=>f (i/12) (i%12)
def upd(f:Nat->Nat->Bool)(a b:Nat)(v:Bool):Nat->Nat->Bool:=λx y=>if x=a/\y=b then v else f x y
inductive Tc(e:Nat->Nat->Bool):Nat->Nat->Prop
 |one {a b:Nat}:a<12->b<12->e a b=true->Tc e a b
 |trans {a b c:Nat}:Tc e a b->Tc e b c->Tc e a c
theorem Tc.lt{e:Nat->Nat->Bool}{a b:Nat}(h:Tc e a b):a<12/\b<12:=by
 induction h with
 |one h1 h2 _=>exact⟨h1,h2⟩
 |trans _ _ i1 i2=>exact⟨i1.1,i2.2⟩
def iq(v:aH):ax:=ax.mk v.bz v.cC v.bx v.cz
def okV(v:aH):Bool:=eI (iq v)&&(decide (0<=v.eQ)&&(decide (v.eQ<v.ep)&&(decide (v.ep<=4096)&&((decide (v.use=0) || decide (v.units=0))&&(decide (0<=v.use)&&(decide (v.use<6)&&(decide (0<=v.units)&&decide (v.units<=1048576))))))))
theorem uF(v:aH):fZ v=some (okV v):=by
 unfold fZ okV;rw[iQ];have e1:decide (v.eQ<0)=!decide (0<=v.eQ):=by rw[<- decide_not,decide_eq_decide];omega
 have e2:decide (v.eQ>=v.ep)=!decide (v.eQ<v.ep):=by rw[<- decide_not,decide_eq_decide];omega
 have e3:decide (v.ep>4096)=!decide (v.ep<=4096):=by rw[<- decide_not,decide_eq_decide];omega
 have e4:(v.use !=0)=!decide (v.use=0):=by by_cases h:v.use=0<;>simp[h]
 have e5:(v.units !=0)=!decide (v.units=0):=by by_cases h:v.units=0<;>simp[h]
 rw[e1,e2,e3,e4,e5,show ax.mk v.bz v.cC v.bx v.cz=iq v from rfl];simp only[ge_iff_le];generalize eI (iq v)=a1;generalize decide (0<=v.eQ)=a2;generalize decide (v.eQ<v.ep)=a3;generalize decide (v.ep<=4096)=a4;generalize decide (v.use=0)=a5;generalize decide (v.units=0)=a6;generalize decide (0<=v.use)=a7;generalize decide (v.use<6)=a8;generalize decide (0<=v.units)=a9;generalize decide (v.units<=1048576)=kq;cases a1<;>cases a2<;>cases a3<;>cases a4<;>cases a5<;>cases a6<;>cases a7<;>cases a8<;>cases a9<;>rfl
theorem Xy{v:aH}(h:okV v=true):eI (iq v)=true:=by rw[okV,aL]at h;exact h.1
def kJ(d:bn):U aH:=d.phases.flatMap (·.cM)
theorem ed{l:U tF}(h:∀p∈l,p.cM.length<=1000):(l.flatMap (·.cM)).length<=l.length*1000:=by
 induction l with
 |nil=>simp
 |cons p l ih=>
  have h1:=h p (by simp);have h2:=ih λq hq=>h q (by simp[hq]);simp only[List.flatMap_cons,dM,bC];omega
def Xz(d:bn):Prop:=d.phases.length<=1000/\∀p∈d.phases,p.cM.length<=1000
theorem XA{d:bn}(h:Xz d)(hn:1001<=n):og n d 0 (d.phases.length:Int)=some (kJ d):=by
 obtain⟨h1,h2⟩:=h;unfold og;have key:=qf (step:=nN d 0 (d.phases.length:Int)) (λ i=>((i:Int),(d.phases.take i).flatMap (·.cM))) (s:=((0:Int),([]:U aH))) d.phases.length (kJ d) rfl (λ i hi=>by
  have e2:decide ((i:Int)>=0)=true:=by simp
  have hl:=ed (l:=d.phases.take i) λp hp=>h2 p (List.mem_of_mem_take hp);rw[length_take]at hl;have hv:=h2 _ (getElem_mem hi);generalize hL:(d.phases.take i).flatMap (·.cM)=L at hl;have hap:bP L.length L.length d.phases[i].cM.length d.phases[i].cM.length 72=true:=cZ (by omega) (by simp only[maxLen];omega);simp only[nN,bJ hi,aj,bf hi,af,e2,hap,dO,aC,aK i];rw[iJ hi,List.flatMap_append,hL];simp only[List.flatMap_cons,List.flatMap_nil,append_nil]) (by simp only[nN,bU,ak,aC,aj,List.take_length,kJ]) n (by omega)
 have hz:aE 0 ([]:U aH).length=true:=rfl;simp only[hz,aj,key,af,bX,aC]
def WP(v:aH):Int:=(kT v).getD 0
theorem XB(v:aH):kT v=some (WP v):=by
 unfold WP kT;rw[uF];cases v.extra<;>cases okV v<;>rfl
def PR(v:aH):Int:=(oH v).getD 0
theorem aeQ(v:aH):oH v=some (PR v):=by
 unfold PR oH;rw[uF,XB];cases h:okV v with
 |false=>rfl
 |true=>
  have e:=Di (Xy h);unfold iq at e;simp only[af,Bool.not_true,ak,e,Option.getD_some]
theorem apG(a1:U dh)(a8:U ax){a9:U aH}(hl:a9.length<=1000)(hn:1001<=n):∃r,∀(a0:U eu)(a2:U dJ)(a3:U bI)(a4:U gq)(a5:U fq)(a6:U cu)(a7:Int),kE n a0 a1 a2 a3 a4 a5 a6 a7 a8 a9=some (r,a0,a1,a2,a3,a4,a5,a6,a7,a8,a9):=by
 have key:=mW (l:=a9) (step:=jF a9) (λ i (s:Int)=>(s,(i:Int))) (λ v s=>i64.wrap (s+PR v)) (λ s=>s) (λ i hi s=>by simp only[jF,bJ hi,aj,aU hi,aW hi,af,aeQ,aK i]) (λ s=>by simp only[jF,bU,ak]) n (by omega) 0;rw[show ((0:Nat):Int)=0 from rfl]at key;unfold kE qx;simp only[key,af,aC,aj];exact⟨_,λ_ _ _ _ _ _ _=>rfl⟩
theorem apH(a1:U dh)(a8:U ax){a9:U aH}(hl:a9.length<=1000)(hn:1001<=n):∃r,∀(a0:U eu)(a2:U dJ)(a3:U bI)(a4:U gq)(a5:U fq)(a6:U cu)(a7:Int),kF n a0 a1 a2 a3 a4 a5 a6 a7 a8 a9=some (r,a0,a1,a2,a3,a4,a5,a6,a7,a8,a9):=by
 have key:=mW (l:=a9) (step:=jI a9) (λ i (s:Int)=>(s,(i:Int))) (λ v s=>i64.wrap (s+v.units)) (λ s=>s) (λ i hi s=>by simp only[jI,bJ hi,aj,aU hi,aW hi,af,oL,aK i]) (λ s=>by simp only[jI,bU,ak]) n (by omega) 0;rw[show ((0:Nat):Int)=0 from rfl]at key;unfold kF qy;simp only[key,af,aC,aj];exact⟨_,λ_ _ _ _ _ _ _=>rfl⟩
theorem amn(a1:U dh)(a8:U ax){a9:U aH}(hl:a9.length<=1000)(hn:1001<=n):∃r,∀(a0:U eu)(a2:U dJ)(a3:U bI)(a4:U gq)(a5:U fq)(a6:U cu)(a7:Int),jG n a0 a1 a2 a3 a4 a5 a6 a7 a8 a9=some (r,a0,a1,a2,a3,a4,a5,a6,a7,a8,a9):=by
 have key:=mW (l:=a9) (step:=gQ a9) (λ i (s:Int)=>(s,(i:Int))) (λ v s=>max s (WP v)) (λ s=>s) (λ i hi s=>by simp only[gQ,bJ hi,aj,aU hi,aW hi,af,XB,aK i]) (λ s=>by simp only[gQ,bU,ak]) n (by omega) 0;rw[show ((0:Nat):Int)=0 from rfl]at key;unfold jG mq;simp only[key,af,aC,aj];exact⟨_,λ_ _ _ _ _ _ _=>rfl⟩
theorem amo(a1:U dh)(a8:U ax){a9:U aH}(hl:a9.length<=1000)(hn:1001<=n):∃r,∀(a0:U eu)(a2:U dJ)(a3:U bI)(a4:U gq)(a5:U fq)(a6:U cu)(a7:Int),jH n a0 a1 a2 a3 a4 a5 a6 a7 a8 a9=some (r,a0,a1,a2,a3,a4,a5,a6,a7,a8,a9):=by
 have key:=mW (l:=a9) (step:=gT a9) (λ i (s:Int)=>(s,(i:Int))) (λ v s=>max s v.ep) (λ s=>s) (λ i hi s=>by simp only[gT,bJ hi,aj,aU hi,aW hi,af,nO,aK i]) (λ s=>by simp only[gT,bU,ak]) n (by omega) 0;rw[show ((0:Nat):Int)=0 from rfl]at key;unfold jH mD;simp only[key,af,aC,aj];exact⟨_,λ_ _ _ _ _ _ _=>rfl⟩
theorem akg(e:bW)(a:JY){u:Int}(h0:0<=u)(h6:u<6):∃b,ko e a u=some b:=by
 obtain⟨k,rfl⟩:∃k:Nat,u=(k:Int):=⟨u.toNat,by omega⟩;have hk:k<6:=by omega
 unfold ko;rw[aU hk,bf (l:=[a.a0,a.a1,a.a2,a.a3,a.a4,a.a5]) hk];exact⟨_,rfl⟩
theorem Fb{l:U bW}{φ:(bW×Unit)->J Bool}(p:bW->Bool)(h:∀x∈l,φ (x,())=some (p x))(hl:l.length<=9223372036854775807)(hn:l.length<n):kr n l φ=some (wW p l):=FN p h hl hn
theorem apI(p:bS){u:Int}(h0:0<=u)(h6:u<6)(ht:p.tables.length<n)(ht2:p.tables.length<=9223372036854775807)(hr:∀t∈p.tables,t.rows.length<n/\t.rows.length<=9223372036854775807):∃r,Ak n p u=some r:=by
 have key:∃o,iter (ku n p u) n (0:Int)=some o/\True:=by
  have step:∀i (hi:i<p.tables.length),ku n p u (i:Int)=some (.inl ((i+1:Nat):Int))\/∃z,ku n p u (i:Int)=some (.inr (.inr z)):=by
   intro i hi;obtain⟨r1,r2⟩:=hr _ (getElem_mem hi);simp only[ku,bJ hi,aj,bf hi,af,aK i];cases ByteArray.toList p.tables[i].name==ByteArray.toList ⟨#[116,114,97,102,102,105,99]⟩with
   |false=>exact Or.inl rfl
   |true=>
    right;simp only[Bool.not_true,ak];generalize JY.mk _ _ _ _ _ _=A;have hx:=Fb (n:=n) (l:=p.tables[i].rows) (φ:=λy1=>ko y1.1 A u) (λ e=>(ko e A u).getD false) (λ e _=>by have⟨b,hb⟩:=akg e A h0 h6;simp[hb]) r2 r1;rw[hx];simp only[af,xH];cases hany:p.tables[i].rows.any λe=>(ko e A u).getD false with
    |false=>exact⟨_,rfl⟩
    |true=>
     have⟨j,hj,h1,_⟩:=WJ hany;rw[h1];simp only[aj,bf hj,af];exact⟨_,rfl⟩
  have main:∀k i m,i+k=p.tables.length->k<m->∃o,iter (ku n p u) m (i:Int)=some o/\True:=by
   intro k
   induction k with
   |zero=>
    intro i m hi hm;obtain⟨q,rfl⟩:∃q,m=q+1:=⟨m -1,by omega⟩;have:i=p.tables.length:=(by omega);subst this;exact⟨.inl (),fD (by simp only[ku,bU,ak]),trivial⟩
   |succ k ih=>
    intro i m hi hm;obtain⟨q,rfl⟩:∃q,m=q+1:=⟨m -1,by omega⟩;rcases step i (by omega)with h |⟨z,h⟩
    .rw[gY h];exact ih (i+1) q (by omega) (by omega)
    .exact⟨_,fD h,trivial⟩
  exact main p.tables.length 0 n (by omega) ht
 obtain⟨o,h1,_⟩:=key;unfold Ak;rw[h1];cases o with
 |inl w=>exact⟨_,rfl⟩
 |inr r=>exact⟨_,rfl⟩
theorem ahd(p:bS){v:aH}(hv:okV v=true)(ht:p.tables.length<n)(ht2:p.tables.length<=9223372036854775807)(hr:∀t∈p.tables,t.rows.length<n/\t.rows.length<=9223372036854775807):∃r,kU n p v=some r:=by
 simp only[okV,aL,aV]at hv;have⟨r,h1⟩:=apI (n:=n) p (u:=v.use) hv.2.2.2.2.2.1 hv.2.2.2.2.2.2.1 ht ht2 hr;unfold kU;rw[h1,aeQ];simp only[af];have e100:((100:Int) !=0)=true:=rfl;by_cases h:r>0
 .have e:(r !=0)=true:=by simp only[bne_iff_ne,ne_eq];omega
  have e2:decide (r>0)=true:=by simpa using h
  rw[e,e2];simp only[aj,af,e100];cases decide (PR v>i64.wrap (Int.tdiv 109951162777600 r))<;>exact⟨_,rfl⟩
 .have e2:decide (r>0)=false:=by simpa using h
  rw[e2];exact⟨_,rfl⟩
theorem apJ(a1:U dh)(a8:U ax){a9:U aH}(hl:a9.length<=1000)(hn:1001<=n)(hv:∀v∈a9,okV v=true)(ht:a1.length<n)(ht2:a1.length<=9223372036854775807)(hr:∀t∈a1,t.rows.length<n/\t.rows.length<=9223372036854775807):∃r,∀(a0:U eu)(a2:U dJ)(a3:U bI)(a4:U gq)(a5:U fq)(a6:U cu)(a7:Int),jh n a0 a1 a2 a3 a4 a5 a6 a7 a8 a9=some (r,a0,a1,a2,a3,a4,a5,a6,a7,a8,a9):=by
 have key:=λ(a0:List eu)(a2:List dJ)(a3:List bI)(a4:List gq)(a5:List fq)(a6:List cu)(a7:Int)=>fA (l:=a9) (step:=jK n a9) (λ i (s:Int)=>(s,(i:Int),a0,a1,a2,a3,a4,a5,a6,a7,a8,a9)) (λ v s=>i64.wrap (s+(kU n (bS.mk [] a1 [] [] [] [] [] 0) v).getD 0)) (λ s=>(s,a0,a1,a2,a3,a4,a5,a6,a7,a8,a9)) (λ _ _=>True) (λ i hi s _=>⟨by
  obtain⟨r,h1⟩:=ahd (n:=n) (bS.mk [] a1 [] [] [] [] [] 0) (hv _ (getElem_mem hi)) ht ht2 hr;have h2:kU n (bS.mk a0 a1 a2 a3 a4 a5 a6 a7) a9[i]=some r:=h1;simp only[jK,bJ hi,aj,aU hi,aW hi,af,kz,h1,h2,aC,aK i,Option.getD_some],trivial⟩) (λ s _=>by simp only[jK,bU,ak,aC,aj]) n (by omega) 0 trivial
 have key:=λa0 a2 a3 a4 a5 a6 a7=>(show ((0:Nat):Int)=0 from rfl) ▸ key a0 a2 a3 a4 a5 a6 a7;unfold jh qz;simp only[key,af,aC,aj];exact⟨_,λ_ _ _ _ _ _ _=>rfl⟩
theorem amq{α β:Type}(l:U α)(f:α->β)(z:β){i:Nat}(hi:i<l.length):((l.take i).map f++List.replicate (l.length -i) z).set i (f l[i])=(l.take (i+1)).map f++List.replicate (l.length -(i+1)) z:=by
 have h1:((l.take i).map f).length=i:=by simp;omega
 rw[List.set_append_right _ _ (by omega),h1,Nat.sub_self,show l.length -i=(l.length -(i+1))+1 by omega,List.replicate_succ,List.set_cons_zero,iJ hi,map_append,aM];rfl
theorem amr{α β:Type}(l:U α)(f:α->β)(z:β){i:Nat}(hi:i<=l.length):((l.take i).map f++List.replicate (l.length -i) z).length=l.length:=by simp;omega
theorem ams{α β:Type}(l:U α)(f:α->β)(z:β){i:Nat}(hi:i<l.length):((l.take (i+1)).map f++List.replicate (l.length -(i+1)) z)[i]? =some (f l[i]):=by rw[List.getElem?_append_left (by simp;omega)];simp[hi]
theorem amt{l:U aH}(hl:l.length<=1000)(hn:1001<=n):iter (gu l) n ((0:Int),List.replicate l.length (ax.mk 0 0 0 0),([]:U Int))=some (l.map iq,l.flatMap λv=>[v.bz,v.bx]):=by
 refine qf (step:=gu l) (λ i=>((i:Int),(l.take i).map iq++List.replicate (l.length -i) (ax.mk 0 0 0 0),(l.take i).flatMap λv=>[v.bz,v.bx])) l.length _ ?_ (λ i hi=>?_) ?_ n (by omega)
 .simp
 .have h1:=amr l iq (ax.mk 0 0 0 0) (Nat.le_of_lt hi);have h2:=amq l iq (ax.mk 0 0 0 0) hi;have h3:=ams l iq (ax.mk 0 0 0 0) hi;have h4:((l.take i).flatMap λv=>[v.bz,v.bx]).length=2*i:=by
   have:∀m:U aH,(m.flatMap λv=>[v.bz,v.bx]).length=2*m.length:=by
    intro m;induction m with
    |nil=>rfl
    |cons a m ih=>simp only[List.flatMap_cons,dM,ih,bC,length_nil];omega
   rw[this,length_take];omega
  generalize (l.take i).map iq++List.replicate (l.length -i) (ax.mk 0 0 0 0)=B at h1 h2;have e0:(((0:Nat):Int)+(i:Int)).toNat=i:=by omega
  have et:((l.length:Int):Int).toNat=l.length:=by omega
  have hb:ax.mk l[i].bz l[i].cC l[i].bx l[i].cz=iq l[i]:=rfl;have hiB:i<B.length:=by omega
  rw[<- h2]at h3;have g3:bo (B.set i (iq l[i])) (((0:Nat):Int)+(i:Int))=some (iq l[i]):=by rw[Es];exact h3
  have hs:sub ([(iq l[i]).x0,(iq l[i]).x1]:U Int) 0 2=[(iq l[i]).x0,(iq l[i]).x1]:=rfl;have hap:bP (2*i) (2*i) 2 2 8=true:=cZ (by omega) (by simp only[maxLen];omega);have hl2:([(iq l[i]).x0,(iq l[i]).x1]:U Int).length=2:=rfl;simp only[gu,bJ hi,aj,aU hi,aW hi,af,et,aW hiB,e0,hb,g3,hs,hl2,h4,hap,dO,aC,aK i];rw[<- h2,iJ hi,List.flatMap_append];rfl
 .simp only[gu,bU,ak,aC,aj,List.take_length];simp
theorem amu{l:U aH}{R:U ax}{X:U Int}(w2:U Int)(hR:R.length=l.length)(hX:X.length=w2.length)(hl:l.length<=1000)(hn:1001<=n){k:Nat}(hk:k+1<w2.length)(hw:w2.length<=10000)(s:Int):∃o,iter (iU l w2 R X (k:Int)) n (s,(0:Int),(0:Int))=some o/\True:=by
 refine Ot (λ i (v:Int×Int×Int)=>v.2.2=(i:Int)) l.length (λ _=>True) (λ i v hi hv=>?_) (λ v hv=>?_) n (by omega) _ rfl
 .obtain⟨a,b,c⟩:=v;simp only at hv;subst hv;have et:(((l.length:Int):Int).toNat)=l.length:=by omega
  have ew:i64.wrap ((k:Int)+1)=((k+1:Nat):Int):=bL (by omega);simp only[iU,et,bJ hi,aj,aU hi,aW (show i<R.length by omega),af,aU (show k<w2.length by omega),aW (show k<X.length by omega),ew,aU hk,aW (show k+1<X.length by omega),aK i];cases decide ((R[i]'(by omega)).x0<=X[k]'(by omega))with
  |false=>exact⟨_,rfl,rfl⟩
  |true=>
   simp only[aj,af];cases decide (X[k]'(by omega)<(R[i]'(by omega)).x1)with
   |false=>exact⟨_,rfl,rfl⟩
   |true=>
    simp only[aj,af];cases decide ((R[i]'(by omega)).y1>b)<;>exact⟨_,rfl,rfl⟩
 .obtain⟨a,b,c⟩:=v;simp only at hv;subst hv;have et:(((l.length:Int):Int).toNat)=l.length:=by omega
  simp only[iU,et,bU,ak];exact⟨_,rfl,trivial⟩
theorem amv(a1:U dh)(a8:U ax){a9:U aH}(hl:a9.length<=1000)(hn:10000<=n):∃r,∀(a0:U eu)(a2:U dJ)(a3:U bI)(a4:U gq)(a5:U fq)(a6:U cu)(a7:Int),iG n a0 a1 a2 a3 a4 a5 a6 a7 a8 a9=some (r,a0,a1,a2,a3,a4,a5,a6,a7,a8,a9):=by
 have et:(((a9.length:Int):Int).toNat)=a9.length:=by omega
 have mk:xE (a9.length:Int) 32=true:=ab5 (by omega) (by simp only[maxLen];omega);have d1:decide ((a9.length:Int)<=(a9.length:Int))=true:=by simp
 have d2:decide (0<=(a9.length:Int))=true:=by simp
 have hz:aE 0 ([]:U Int).length=true:=rfl;have hx:(a9.flatMap λv=>[v.bz,v.bx]).length<=2000:=by
  have:∀m:U aH,(m.flatMap λv=>[v.bz,v.bx]).length=2*m.length:=by
   intro m;induction m with
   |nil=>rfl
   |cons a m ih=>simp only[List.flatMap_cons,dM,ih,bC,length_nil];omega
  rw[this];omega
 unfold iG;rw[et,amt hl (by omega)];generalize (a9.flatMap λv=>[v.bz,v.bx])=W at hx;have srt:=Kq (n:=n) (l:=a9.map iq) (φ:=λy1=>iF y1.1 y1.2.1) (λ x y=>if x.y0<y.y0 then -1 else if y.y0<x.y0 then 1 else 0) (λ x y=>by
  show iF x y=_;unfold iF;rw[kC];rfl) (λ x y=>by
  unfold xd;rw[decide_eq_decide];constructor
  .intro h;split at h
   .assumption
   .split at h<;>omega
  .intro h;rw[aX h];decide) (by simp;omega) (by simp;omega)
 have hm:aE a9.length (a9.map iq).length=true:=by simp
 have hR:(lq xd (a9.map iq)).length=a9.length:=by rw[xI aiS];simp
 have hX:(j6 ot W).length=W.length:=(Ey ot W).length_eq;simp only[d1,d2,mk,Bool.and_self,aj,hz,af,hm,srt,aC,pI (show W.length<1099511627776 by omega) (show W.length<n by omega)];generalize lq xd (a9.map iq)=R at hR;generalize j6 ot W=X at hX;have key:∃o,iter (iV n a9 W R X) n ((0:Int),(0:Int))=some o/\True:=by
  have eN:max (0:Int) (i64.wrap ((W.length:Int) -1))=((W.length -1:Nat):Int):=by
   cases h:W.length with
   |zero=>rfl
   |succ k=>rw[mV (by omega) (by omega)];omega
  refine Ot (λ i (v:Int×Int)=>v.2=(i:Int)) (W.length -1) (λ _=>True) (λ i v hi hv=>?_) (λ v hv=>?_) n (by omega) _ rfl
  .obtain⟨a,b⟩:=v;simp only at hv;subst hv;obtain⟨o,ho,_⟩:=amu (n:=n) (l:=a9) (R:=R) (X:=X) W hR hX hl (by omega) (k:=i) (by omega) (by omega) a;simp only[iV,eN,bJ hi,aj,ho,af,aK i];exact⟨_,rfl,rfl⟩
  .obtain⟨a,b⟩:=v;simp only at hv;subst hv;simp only[iV,eN,bU,ak];exact⟨_,rfl,trivial⟩
 obtain⟨o,ho,_⟩:=key;rw[ho];exact⟨o,λ_ _ _ _ _ _ _=>rfl⟩
def Lq(b:ax)(k:Int):ax:=⟨b.x0 -k,b.y0 -k,b.x1+k,b.y1+k⟩
def Fe(area:U ax)(b:ax)(k:Int):Bool:=eI (Lq b k)&&decide (area.foldl (λ s y=>Xr (Lq b k) s y) 0=Lw (Lq b k))
theorem akh(b:ax)(k:Int)(a2:U eu)(a3:U dh)(a4:U dJ)(a5:U bI)(a6:U gq)(a7:U fq)(a8:U cu)(a9:Int){kq:U ax}(te:U aH)(hb:eI b=true)(h0:0<=k)(h1:k<=1048576)(hl:kq.length<=1000)(hn:1001<=n):
 jJ n b k a2 a3 a4 a5 a6 a7 a8 a9 kq te=some (Fe kq b k,a2,a3,a4,a5,a6,a7,a8,a9,kq,te):=by
 rw[aoq]at hb;unfold jJ Bl Fe;rw[dU (x:=b.x0 -k),dU (x:=b.y0 -k),dU (x:=b.x1+k),dU (x:=b.y1+k),show ax.mk (b.x0 -k) (b.y0 -k) (b.x1+k) (b.y1+k)=Lq b k from rfl,iQ];generalize Lq b k=g;simp only[af];cases hg:eI g with
 |false=>simp only[Bool.not_false,aj,aC,Bool.false_and]
 |true=>
  have key:=mW (l:=kq) (step:=iC kq (g,true)) (λ i (s:Int)=>(s,(i:Int))) (λ y s=>Xr g s y) (λ s=>s) (λ i hi s=>by
   simp only[iC,bJ hi,aj,bf hi,af,y9,aK i,Xr];cases h1:eI g with
   |false=>rfl
   |true=>
    cases h2:eI kq[i]with
    |false=>rfl
    |true=>
     cases h3:eI (FQ g kq[i])with
     |false=>rfl
     |true=>simp only[Bool.and_self,aj,Di h3,af]) (λ s=>by simp only[iC,bU,ak]) n (by omega) 0
  rw[show ((0:Nat):Int)=0 from rfl]at key;simp only[Bool.not_true,ak,key,af,Di hg,aC,aj,Bool.true_and];congr 2
def Qu(p:Int->Bool):Nat->Int->Int->Int
 | 0,lo,_=>lo
 |k+1,lo,hi=>bif decide (lo<hi)then(bif p ((lo+hi+1)/2)then Qu p k ((lo+hi+1)/2) hi else Qu p k lo ((lo+hi+1)/2 -1))else lo
theorem ab9(p:Int->Bool):∀k lo hi,lo<=hi->lo<=Qu p k lo hi/\Qu p k lo hi<=hi
 | 0,lo,hi,h=>by simp only[Qu];omega
 |k+1,lo,hi,h=>by
  simp only[Qu];by_cases h1:lo<hi
  .have e:decide (lo<hi)=true:=(by simpa using h1);rw[e,aj];cases p ((lo+hi+1)/2)with
   |true=>have:=ab9 p k ((lo+hi+1)/2) hi (by omega);simp only[aj];omega
   |false=>have:=ab9 p k lo ((lo+hi+1)/2 -1) (by omega);simp only[ak];omega
  .have e:decide (lo<hi)=false:=(by simpa using h1);rw[e,ak];omega
theorem ahe{v:aH}(hv:eI (iq v)=true)(a2:U eu)(a3:U dh)(a4:U dJ)(a5:U bI)(a6:U gq)(a7:U fq)(a8:U cu)(a9:Int){kq:U ax}(te:U aH)(hl:kq.length<=1000)(hn:1001<=n):
 ∀(k:Nat) lo hi m,0<=lo->lo<=hi->hi<=1048576->hi -lo<2 ^ k->k<m->iter (eZ n v) m (lo,hi,a2,a3,a4,a5,a6,a7,a8,a9,kq,te)=some (Qu (Fe kq (iq v)) k lo hi,a2,a3,a4,a5,a6,a7,a8,a9,kq,te):=by
 intro k
 induction k with
 |zero=>
  intro lo hi m h0 h1 h2 h3 hm;obtain⟨q,rfl⟩:∃q,m=q+1:=⟨m -1,by omega⟩;have:lo=hi:=by simp at h3;omega
  subst this;refine fD ?_;have e:decide (lo<lo)=false:=by simp
  simp only[eZ,e,ak,aC,aj,Qu]
 |succ k ih=>
  intro lo hi m h0 h1 h2 h3 hm;obtain⟨q,rfl⟩:∃q,m=q+1:=⟨m -1,by omega⟩;have hp:(2:Int) ^ (k+1)=2*2 ^ k:=by rw[Int.pow_succ];omega
  rw[hp]at h3;by_cases hlt:lo<hi
  .have e:decide (lo<hi)=true:=(by simpa using hlt);have e2:((2:Nat) !=0)=true:=rfl;have em:i64.wrap (Int.tdiv (i64.wrap (i64.wrap (lo+hi)+1)) 2)=(lo+hi+1)/2:=(by rw[dU (x:=lo+hi),dU (x:=lo+hi+1),Int.tdiv_eq_ediv_of_nonneg (by omega),dU (by omega) (by omega)]);have hi2:=akh (n:=n) (iq v) ((lo+hi+1)/2) a2 a3 a4 a5 a6 a7 a8 a9 (kq:=kq) te hv (by omega) (by omega) hl hn;unfold iq at hi2;cases hc:Fe kq (iq v) ((lo+hi+1)/2)with
   |true=>
    rw[gY (v':=((lo+hi+1)/2,hi,a2,a3,a4,a5,a6,a7,a8,a9,kq,te)) (by
     unfold iq at hc;simp only[eZ,e,aj,e2,aC,em,hi2,af,hc]),ih _ _ _ (by omega) (by omega) (by omega) (by omega) (by omega)]
    simp only[Qu,e,aj,hc]
   |false=>
    rw[gY (v':=(lo,(lo+hi+1)/2 -1,a2,a3,a4,a5,a6,a7,a8,a9,kq,te)) (by
     unfold iq at hc;simp only[eZ,e,aj,e2,aC,em,hi2,af,hc,ak,dU (x:=(lo+hi+1)/2 -1)]),ih _ _ _ (by omega) (by omega) (by omega) (by omega) (by omega)]
    simp only[Qu,e,aj,hc,ak]
  .have e:decide (lo<hi)=false:=(by simpa using hlt);refine fD ?_;simp only[eZ,e,ak,aC,aj,Qu]
def wQ(area:U ax)(l:U aH):Int:=l.foldl (λ b v=>Qu (Fe area (iq v)) 21 0 b) 1048576
theorem ahf(a0:U eu)(a1:U dh)(a2:U dJ)(a3:U bI)(a4:U gq)(a5:U fq)(a6:U cu)(a7:Int){a8:U ax}{a9:U aH}(hv:∀v∈a9,okV v=true)(hl:a9.length<=1000)(h8:a8.length<=1000)(hn:1001<=n):jg n a0 a1 a2 a3 a4 a5 a6 a7 a8 a9=some (wQ a8 a9,a0,a1,a2,a3,a4,a5,a6,a7,a8,a9):=by
 have key:=fA (l:=a9) (step:=ig n a9) (λ i (s:Int)=>(s,(i:Int),a0,a1,a2,a3,a4,a5,a6,a7,a8,a9)) (λ v s=>Qu (Fe a8 (iq v)) 21 0 s) (λ s=>(s,a0,a1,a2,a3,a4,a5,a6,a7,a8,a9)) (λ _ s=>0<=s/\s<=1048576) (λ i hi s hs=>by
  have h1:=ahe (n:=n) (Xy (hv _ (getElem_mem hi))) a0 a1 a2 a3 a4 a5 a6 a7 (kq:=a8) a9 h8 hn 21 0 s n (by omega) hs.1 hs.2 (by have:(2:Int) ^ 21=2097152:=rfl;omega) (by omega);have h2:=ab9 (Fe a8 (iq a9[i])) 21 0 s hs.1;refine⟨?_,by omega,by omega⟩;simp only[ig,bJ hi,aj,aU hi,aW hi,af,aC,h1,aK i]) (λ s _=>by simp only[ig,bU,ak,aC,aj]) n (by omega) 1048576 (by omega)
 rw[show ((0:Nat):Int)=0 from rfl]at key;unfold jg;simp only[aC,aj,key,af];rfl
def fP(d:bn):U aH:=((kJ d).take 40).filter okV
theorem acd(d:bn):∀v∈fP d,okV v=true:=λv hv=>(mem_filter.1 hv).2
theorem Y6(d:bn):(fP d).length<=40:=Nat.le_trans (length_filter_le _ _) (by rw[length_take];omega)
def oq(lot:cK):U ax:=bif c7 lot.area then lot.area else []
theorem aqk{l:U aH}(a0:U eu)(a1:U dh)(a2:U dJ)(a3:U bI)(a4:U gq)(a5:U fq)(a6:U cu)(a7:Int)(a8:U ax)(hl:l.length<=9223372036854775807)(hn:l.length<n):
 iter (qK l) n ((0:Int),a0,a1,a2,a3,a4,a5,a6,a7,a8,([]:U aH))=some (a0,a1,a2,a3,a4,a5,a6,a7,a8,(l.take 40).filter okV):=by
 refine qf (step:=qK l) (λ i=>((i:Int),a0,a1,a2,a3,a4,a5,a6,a7,a8,((l.take i).take 40).filter okV)) l.length _ (by simp) (λ i hi=>?_) ?_ n hn
 .have hlen:(((l.take i).take 40).filter okV).length<=40:=Nat.le_trans (length_filter_le _ _) (by rw[length_take];omega);have e40:decide ((i:Int)<40)=decide (i<40):=by rw[decide_eq_decide];omega
  have hs:sub ([l[i]]:U aH) 0 1=[l[i]]:=rfl;have hN:((l.take (i+1)).take 40).filter okV=((l.take i).take 40).filter okV++(bif decide (i<40)&&okV l[i]then [l[i]]else []):=by
   by_cases h:i<40
   .have h1:(l.take i).take 40=l.take i:=take_of_length_le (by rw[length_take];omega);have h2:(l.take (i+1)).take 40=l.take (i+1):=take_of_length_le (by rw[length_take];omega);have h3:decide (i<40)=true:=(by simpa using h);rw[h1,h2,iJ hi,List.filter_append,h3];cases h4:okV l[i]<;>simp[h4]
   .have h3:decide (i<40)=false:=(by simpa using h);rw[List.take_take,List.take_take,h3,show min 40 (i+1)=40 by omega,show min 40 i=40 by omega];simp
  rw[hN];generalize ((l.take i).take 40).filter okV=L at hlen;have hap:bP L.length L.length 1 1 72=true:=cZ (by omega) (by simp only[maxLen];omega);simp only[qK,bJ hi,aj,aU hi,aW hi,af,e40,uF,aK i];cases decide (i<40)with
  |false=>simp only[ak,af,aC,aj,Bool.false_and,append_nil]
  |true=>
   simp only[aj,af,Bool.true_and];cases okV l[i]with
   |false=>simp only[ak,aC,aj,af,append_nil]
   |true=>simp only[aj,hs,length_singleton,hap,dO,aC,af]
 .simp only[qK,bU,ak,aC,aj,List.take_length]
def amw(n:Nat)(p:bS):Prop:=p.tables.length<n/\p.tables.length<=9223372036854775807/\∀t∈p.tables,t.rows.length<n/\t.rows.length<=9223372036854775807
def Dk:ByteArray:=⟨#[115,101,116,98,97,99,107]⟩
theorem amx{p:bS}{lot:cK}{d:bn}(hp:amw n p)(hl:lot.area.length<=900)(hd:Xz d)(hn:2000000<=n):∃e1 e2 e3 e4 e5 e6 e7 e8:Int,∀(D:U eu)(Z:U dJ)(R:U bI)(C:U gq)(V:U fq)(S:U cu)(H:Int),jm n (bS.mk D p.tables Z R C V S H) lot d=some [⟨⟨#[97,114,101,97]⟩,e1⟩,⟨⟨#[99,111,118,101,114]⟩,e2⟩,⟨⟨#[102,108,111,111,114]⟩,e3⟩,⟨⟨#[102,108,111,111,114,115]⟩,e4⟩,⟨⟨#[104,101,105,103,104,116]⟩,e5⟩,⟨⟨#[104,111,109,101,115]⟩,e6⟩,⟨⟨#[114,117,110,111,102,102]⟩,e7⟩,⟨Dk,wQ (oq lot) (fP d)⟩,⟨⟨#[116,114,97,102,102,105,99]⟩,e8⟩]:=by
 have hs1:oq lot=(bif c7 lot.area then lot.area else []):=rfl;have hsl:(oq lot).length<=900:=by unfold oq;cases c7 lot.area<;>simp[hl]
 have hvl:=Y6 d;have hvo:=acd d;have hfl:=ed hd.2;have hd1:=hd.1;obtain⟨hp1,hp2,hp3⟩:=hp;have hz:aE 0 ([]:U aH).length=true:=rfl;have HM:∀(D:U eu)(Z:U dJ)(R:U bI)(C:U gq)(V:U fq)(S:U cu)(H:Int),((bif c7 lot.area then some (D,p.tables,Z,R,C,V,S,H,lot.area)else some (D,p.tables,Z,R,C,V,S,H,([]:(List ax)))):J ((List eu)×(List dh)×(List dJ)×(List bI)×(List gq)×(List fq)×(List cu)×Int×(List ax)))=some (D,p.tables,Z,R,C,V,S,H,oq lot):=by intro D Z R C V S H;rw[hs1];cases c7 lot.area<;>rfl
 obtain⟨e2,h2⟩:=amv (n:=n) p.tables (oq lot) (a9:=fP d) (by omega) (by omega);obtain⟨e3,h3⟩:=apG (n:=n) p.tables (oq lot) (a9:=fP d) (by omega) (by omega);obtain⟨e4,h4⟩:=amn (n:=n) p.tables (oq lot) (a9:=fP d) (by omega) (by omega);obtain⟨e5,h5⟩:=amo (n:=n) p.tables (oq lot) (a9:=fP d) (by omega) (by omega);obtain⟨e6,h6⟩:=apH (n:=n) p.tables (oq lot) (a9:=fP d) (by omega) (by omega);have h8:=λ(D:List eu)(Z:List dJ)(R:List bI)(C:List gq)(V:List fq)(S:List cu)(H:Int)=>ahf (n:=n) D p.tables Z R C V S H (a8:=oq lot) (a9:=fP d) hvo (by omega) (by omega) (by omega);obtain⟨e9,h9⟩:=apJ (n:=n) p.tables (oq lot) (a9:=fP d) (by omega) (by omega) hvo hp1 hp2 hp3;refine⟨bif c7 (oq lot)then LP (oq lot)else 0,e2,e3,e4,e5,e6,e2,e9,λD Z R C V S H=>?_⟩;unfold jm;rw[lY (by omega) (by omega) (by omega),XA hd (by omega)];simp only[af,HM,hz,aj];rw[aqk (n:=n) D p.tables Z R C V S H (oq lot) (by show(kJ d).length<=_;unfold kJ;omega) (by show(kJ d).length<_;unfold kJ;omega)];have hr:((kJ d).take 40).filter okV=fP d:=rfl;have s1:∀e:bW,sub ([e]:U bW) 0 1=[e]:=λ_=>rfl;have ap:∀k,k<=20->bP k k 1 1 24=true:=λk hk=>cZ (by omega) (by simp only[maxLen];omega);have lot:mO n D p.tables Z R C V S H (oq lot) (fP d)=some (bif c7 (oq lot)then LP (oq lot)else 0,D,p.tables,Z,R,C,V,S,H,oq lot,fP d):=by
  unfold mO;rw[LQ (by omega) (by omega)];simp only[af,aC,aj]
 simp only[hr,af,aC,aj,lot,s1,length_singleton,ap 0 (by omega),dO,h2,ap 1 (by omega),dM,ap 2 (by omega),h3,ap 3 (by omega),h4,ap 4 (by omega),h5,ap 5 (by omega),h6,ap 6 (by omega),h8,ap 7 (by omega),h9,ap 8 (by omega),Nat.reduceAdd,Nat.zero_add,bX];rfl
theorem ao7{p:bS}{lot:cK}{d:bn}(hp:amw n p)(hl:lot.area.length<=900)(hd:Xz d)(hn:2000000<=n):∃e1 e2 e3 e4 e5 e6 e7 e8:Int,∀R:U bI,jm n (bS.mk p.defs p.tables p.zones R p.caps p.views p.uk p.hours) lot d=some [⟨⟨#[97,114,101,97]⟩,e1⟩,⟨⟨#[99,111,118,101,114]⟩,e2⟩,⟨⟨#[102,108,111,111,114]⟩,e3⟩,⟨⟨#[102,108,111,111,114,115]⟩,e4⟩,⟨⟨#[104,101,105,103,104,116]⟩,e5⟩,⟨⟨#[104,111,109,101,115]⟩,e6⟩,⟨⟨#[114,117,110,111,102,102]⟩,e7⟩,⟨Dk,wQ (oq lot) (fP d)⟩,⟨⟨#[116,114,97,102,102,105,99]⟩,e8⟩]:=by
 have⟨e1,e2,e3,e4,e5,e6,e7,e8,h⟩:=amx (n:=n) hp hl hd hn;exact⟨e1,e2,e3,e4,e5,e6,e7,e8,λR=>h _ _ R _ _ _ _⟩
theorem aiU(ds:U (ByteArray×ET))(s:U UInt8):∀(k:Nat)(i:Int),Nv ds s k=some i->0<=i/\i<(k:Int)
 | 0,i,h=>by simp[Nv]at h
 |k+1,i,h=>by
  simp only[Nv]at h;split at h
  .cases h;omega
  .have:=aiU ds s k i h;omega
theorem aor{ds:U (ByteArray×ET)}(h:rj ds<=4000000):Y0 (oK ds) ds.length:=by
 have hl:=UC ds;refine⟨by simp[oK],by omega,λl hl=>?_⟩;simp only[oK,mem_map]at hl;obtain⟨d,hd,rfl⟩:=hl;have h1:=UD hd;have h2:=ET.pc d.2;have h3:=aeg d.2.names;refine⟨Nat.le_trans (List.length_filterMap_le _ _) (by omega),λk hk=>?_⟩;simp only[gZ,List.mem_filterMap]at hk;obtain⟨s,_,hk⟩:=hk;exact aiU ds s _ k hk
theorem aeS{M:U ByteArray}(hM:M.length<=1000)(hn:1001<=n)(w0:U (ByteArray×Bool)):∃w,iter (nY M) n ((0:Int),w0)=some w:=by
 obtain⟨o,h,_⟩:=dI (step:=nY M) (λ i (v:Int×List (ByteArray×Bool))=>∃w,v=((i:Int),w)/\i<=M.length) (λ _=>True) M.length (λ k v ⟨_,_,h⟩=>h) (by
  rintro i v ⟨w,rfl,hi⟩;by_cases hlt:i<M.length
  .simp only[nY,show decide ((i:Int)<(M.length:Int))=true from by simp;omega,aj,aU hlt,aW hlt,af,aK i];exact .inl ⟨_,rfl,_,rfl,hlt⟩
  .simp only[nY,show decide ((i:Int)<(M.length:Int))=false from by simp;omega,ak];exact .inr ⟨_,rfl,trivial⟩) n 0 ((0:Int),w0) ⟨_,rfl,Nat.zero_le _⟩ (by omega)
 exact⟨o,h⟩
theorem aeT{p:bS}(hp:p.defs.length<=4000000)(hn:4000001<=n)(w0:U (ByteArray×Bool)):iter (kP p) n ((0:Int),w0)=some (.inl ())\/iter (kP p) n ((0:Int),w0)=some (.inr ([],[],5)):=by
 obtain⟨o,h,h2⟩:=dI (step:=kP p) (λ i (v:Int×List (ByteArray×Bool))=>∃w,v=((i:Int),w)/\i<=p.defs.length) (λ o=>o= .inl ()\/o= .inr ([],[],5)) p.defs.length (λ k v ⟨_,_,h⟩=>h) (by
  rintro i v ⟨w,rfl,hi⟩;by_cases hlt:i<p.defs.length
  .simp only[kP,show decide ((i:Int)<(p.defs.length:Int))=true from by simp;omega,aj,bf hlt,af,aK i];cases (eY Gb.lv p.defs[i].name w).getD false with
   |true=>exact .inr ⟨_,rfl,.inr rfl⟩
   |false=>exact .inl ⟨_,rfl,_,rfl,hlt⟩
  .simp only[kP,show decide ((i:Int)<(p.defs.length:Int))=false from by simp;omega,ak];exact .inr ⟨_,rfl,.inl rfl⟩) n 0 ((0:Int),w0) ⟨_,rfl,Nat.zero_le _⟩ (by omega)
 rcases h2 with rfl |rfl
 .exact .inl h
 .exact .inr h
theorem aeU:∃M,wZ=some M/\M.length=9:=⟨_,rfl,rfl⟩
def ia(l:U eu):Prop:=rj (l.map toD)<=4000000
theorem ia.len{l:U eu}(h:ia l):l.length<=4000000:=by
 have:=UC (l.map toD);rw[length_map]at this;unfold ia at h;omega
theorem ia.body{l:U eu}(h:ia l){d:eu}(hd:d∈l):(toE (cB.mk d.jn d.lR d.k7 d.i8 d.eL)).wt<=4000000:=by
 have h1:=UD (mem_map.2 ⟨d,hd,rfl⟩:toD d∈l.map toD);unfold ia at h;simp only[toD,ET.wt]at h1;simp only[toE,ET.wt];omega
theorem FT{p:bS}(hp:ia p.defs)(hn:5000003<=n):∃r,jE n p=some r/\r.1.length<=p.defs.length/\(∀ k∈r.1,0<=k/\k<(p.defs.length:Int))/\r.2.1.length<=p.defs.length+1:=by
 obtain⟨M,hM,hM9⟩:=aeU;obtain⟨w,hw⟩:=aeS (n:=n) (M:=M) (by omega) (by omega) [];have hg:Y0 (oK (p.defs.map toD)) p.defs.length:=by have:=aor hp;rwa [length_map]at this
 have HQ:kN p.defs=some (p.defs,oK (p.defs.map toD)):=by
  unfold kN;rw[Nat.ble_eq_true_of_le hp];rfl
 simp only[jE,hM,af,hw];rcases aeT (n:=n) (p:=p) hp.len (by omega) w with h |h
 .have⟨c,hc,hc2,hc3⟩:=aev (n:=n) (a0:=p.defs) hg rfl hn;simp only[h,eG,HQ,af,hc];cases h0:(c.length==0)with
  |true=>
   have e:c=[]:=List.eq_nil_of_length_eq_zero (by simpa using h0);obtain⟨l,hl,hll,hlr⟩:=ama (n:=n) (a0:=o9.mk p.defs (oK (p.defs.map toD))) hg rfl (hc2 e) (by omega);simp only[aj,af,ak,hl,bX,aC];exact⟨_,rfl,by simp[hll],hlr,by simp⟩
  |false=>
   simp only[aj,af,ak,bX,aC];exact⟨_,rfl,by simp,by simp,hc3⟩
 .simp only[h,iL];exact⟨_,rfl,by simp,by simp,by simp⟩
theorem wR(x:cB):cB.mk x.op x.n x.s x.key x.args=x:=by cases x;rfl
theorem Ox:∀l:U cB,Ir l=l.map toE
 |[]=>rfl
 |x::xs=>by simp only[Ir,aF,Ox xs]
theorem aiV:∀{l:U ET}{t:ET},t∈l->t.wt<=ET.th l
 |x::l,t,h=>by
  simp only[ET.th];rcases aO.1 h with rfl |h
  .omega
  .have:=aiV h;omega
theorem Zs{e x:cB}(h:x∈e.args):(toE x).wt<(toE e).wt:=by
 have h1:(toE x).wt<=ET.th (Ir e.args):=aiV (by rw[Ox];exact mem_map.2 ⟨x,h,rfl⟩);cases e;simp only[toE,ET.wt]at *;omega
theorem ace(e:cB):e.args.length<(toE e).wt:=by
 have h1:=ET.qS (Ir e.args);rw[Ox,length_map]at h1;cases e;simp only[toE,ET.wt,Ox]at *;omega
def VR:Nat->cB->Prop
 | 0,_=>False
 |k+1,e=>yV e.op=some ((e.args.length:Int),true)/\∀x∈e.args,VR k x
theorem ahh(op:Int):∃a b,yV op=some (a,b):=by
 simp only[yV];cases (op==0)<;>cases (op==1)<;>cases (op==2)<;>cases (op==3)<;>cases (op==9)<;>cases (op==15)<;>cases (op==16)<;>cases (decide (op>=0))<;>exact⟨_,_,rfl⟩
theorem aaK(hn:4000002<=n):∀(m:Nat)(e:cB)(a:Int),m<=9223372036854775000->0<=a->a<=12->13<=a+m->(toE e).wt<=4000000->∃r,sH n m e a=some r/\1<=r/\r<=13+m/\(r<=12->VR m e)
 | 0,_,_,_,_,_,h,_=>absurd h (by omega)
 |m+1,e,a,hm,h0,h1,h2,h3=>by
  have⟨x,b,hx⟩:=ahh e.op;have hla:=ace e;show ∃r,Al n (sH n m) e a=some r/\_;simp only[Al,hx,af];have bad:∃r,some (13:Int)=some r/\1<=r/\r<=13+((m+1:Nat):Int)/\(r<=12->VR (m+1) e):=⟨13,rfl,by omega,by omega,λh=>absurd h (by omega)⟩;cases b with
  |false=>simpa only[Bool.not_false,aj,af]using bad
  |true=>
   simp only[Bool.not_true,ak];by_cases hxl:x=(e.args.length:Int)
   .subst hxl;simp only[show ((e.args.length:Int) !=(e.args.length:Int))=false from by simp,ak,af];by_cases ha:a>=12
    .simpa only[ha,decide_true,aj]using bad
    .simp only[ha,decide_false,ak]
     obtain⟨o,g1,g2,g3,g4⟩:=dI (step:=xQ n (sH n m) e a) (λ i (v:Int×Int)=>v.2=(i:Int)/\i<=e.args.length/\0<=v.1/\v.1<=13+m/\(v.1<=11->∀y∈e.args.take i,VR m y))
      (λ o=>0<=o/\o<=13+m/\(o<=11->∀y∈e.args,VR m y)) e.args.length (λ k v h=>h.2.1) (by
      rintro i ⟨v2,v3⟩ ⟨hv,hi,i1,i2,i3⟩;simp only at hv i1 i2 i3;subst hv;by_cases hlt:i<e.args.length
      .left;have hwx:=Zs (getElem_mem hlt);obtain⟨r,r1,r2,r3,r4⟩:=aaK hn m e.args[i] (a+1) (by omega) (by omega) (by omega) (by omega) (by omega);refine⟨(max v2 r,((i+1:Nat):Int)),?_,rfl,hlt,by show 0<=max v2 r;omega,by show max v2 r<=_;omega,λh y hy=>?_⟩
       .simp only[xQ,show decide ((i:Int)<(e.args.length:Int))=true from by simp;omega,aj,bf hlt,af,wR,dU (show -9223372036854775808<=a+1 by omega) (show a+1<=9223372036854775807 by omega),r1,aK i]
       .have h':max v2 r<=11:=h;rw[List.take_add_one,dQ hlt]at hy;rw[aZ]at hy;rcases hy with hy |hy
        .exact i3 (by omega) y hy
        .simp at hy;subst hy;exact r4 (by omega)
      .right;refine⟨v2,?_,i1,i2,λh y hy=>i3 h y (by rw[take_of_length_le (by omega)];exact hy)⟩;simp only[xQ,show decide ((i:Int)<(e.args.length:Int))=false from by simp;omega,ak]) n 0 ((0:Int),(0:Int)) ⟨rfl,Nat.zero_le _,by simp,by show(0:Int)<=_;omega,by simp⟩ (by omega)
     simp only[g1,af];rw[dU (by omega) (by omega)];exact⟨o+1,rfl,by omega,by omega,λh=>⟨hx,g4 (by omega)⟩⟩
   .simpa only[show (x !=(e.args.length:Int))=true from by simpa using hxl,aj,af]using bad
theorem Sg(hn:4000002<=n)(hn2:n<=9223372036854775000){e:cB}(h:(toE e).wt<=4000000):∃b,C8 n e=some b/\(b=true->VR n e):=by
 obtain⟨r,h1,h2,h3,h4⟩:=aaK hn n e 0 hn2 (by omega) (by omega) (by omega) h;refine⟨decide (r<=12),?_,λh=>h4 (by simpa using h)⟩;simp only[C8,wR,Qg,h1,af]
def aql(tables:U dh)(s key:ByteArray):Int:=match tables.find? λt=>ByteArray.toList t.name==ByteArray.toList s with
 |some t=>aqh t key
 |none=>0
def On(ts:U dh):Prop:=ts.length<=4000000/\∀t∈ts,t.rows.length<=4000000
theorem aki(hn:4000002<=n){a0:U eu}{ts:U dh}{a2:U dJ}{a3:U bI}{a4:U gq}{a5:U fq}{a6:U cu}{a7:Int}{zs:U ByteArray}(ht:On ts)(e:cB)(kn:U (ByteArray×Int)):ji n a0 ts a2 a3 a4 a5 a6 a7 zs e kn=some (aql ts e.s e.key,kn):=by
 have h1:=ht.1;simp only[ji,wR];rw[F7 (λ t=>ByteArray.toList t.name==ByteArray.toList e.s) (λ x _=>rfl) (by omega) (by omega)];simp only[af,aql];rcases Xp (λ t:dh=>ByteArray.toList t.name==ByteArray.toList e.s) ts with ⟨i,hi,h1,h2⟩ |⟨h1,h2⟩
 .rw[h1,h2];have d:decide ((i:Int)<0)=false:=by simp
  have hr:=ht.2 _ (getElem_mem hi);simp only[d,ak,bf hi,af];rw[F8 (λ x=>ByteArray.toList x.name==ByteArray.toList e.key) (λ x _=>rfl) (by omega) (by omega)];simp only[af,aqh];rcases Xp (λ x:bW=>ByteArray.toList x.name==ByteArray.toList e.key) ts[i].rows with ⟨j,hj,g1,g2⟩ |⟨g1,g2⟩
  .rw[g1,g2];have d:decide ((j:Int)>=0)=true:=(by simp);simp only[d,aj,bf hj,af]
  .rw[g1,g2];rfl
 .rw[h1,h2];rfl
theorem dn{α:Type}{c:Bool}{x y:J α}(hx:∃r,x=some r)(hy:∃r,y=some r):∃r,(bif c then x else y)=some r:=by cases c<;>assumption
theorem Y7(a b:Int):∃r,wL a b=some r:=by
 simp only[wL];cases h:(b==0)with
 |true=>exact⟨_,rfl⟩
 |false=>
  have:(b !=0)=true:=by simp[bne,h]
  simp only[this,aj,ak];cases (Int.tmod a b !=0)<;>cases (decide (Int.tmod a b<0)==decide (b<0))<;>exact⟨_,rfl⟩
theorem XC(b:Bool):∃r,yX b=some r:=dn ⟨_,rfl⟩ ⟨_,rfl⟩
theorem sK{α β:Type}{x:J α}{f:α->J β}(hx:∃r,x=some r)(hf:∀r,∃s,f r=some s):∃s,x.bind f=some s:=by obtain⟨r,rfl⟩:=hx;exact hf r
theorem aeV(op a b:Int):∃r,J3 op a b=some r:=by
 have q:=Y7 a b;have t:=λc=>XC c;unfold J3
 repeat' first
  |exact⟨_,rfl⟩
  |exact q
  |exact t _
  |apply dn
  |(refine sK ?_ λr=>?_)
theorem I7(h:0<n):cN 0 n=true:=by simp[cN];omega
theorem aeW(h:1<n):cN 1 n=true:=by simp[cN];omega
theorem amy(h:2<n):cN 2 n=true:=by simp[cN];omega
theorem Oy{α:Type}{l:U α}(h:0<l.length):bo l (((0:Nat):Int)+0)=some l[0]:=aW (i:=0) h
theorem aiX{α:Type}{l:U α}(h:1<l.length):bo l (((0:Nat):Int)+1)=some l[1]:=aW (i:=1) h
theorem aos{α:Type}{l:U α}(h:2<l.length):bo l (((0:Nat):Int)+2)=some l[2]:=aW (i:=2) h
theorem Y8{l:U ByteArray}{s:ByteArray}(hl:l.length<=4000000)(hn:4000002<=n):∃r,fI n l s=some r:=by
 obtain⟨o,h,_⟩:=dI (step:=nK l s) (λ i (v:Int)=>v=(i:Int)/\i<=l.length) (λ _=>True) l.length (λ k v h=>h.2) (by
  rintro i v ⟨rfl,hi⟩;by_cases hlt:i<l.length
  .simp only[nK,show decide ((i:Int)<(l.length:Int))=true from by simp;omega,aj,bf hlt,af,aK i];cases (ByteArray.toList s==ByteArray.toList l[i])with
   |true=>exact .inr ⟨_,rfl,trivial⟩
   |false=>exact .inl ⟨_,rfl,rfl,hlt⟩
  .simp only[nK,show decide ((i:Int)<(l.length:Int))=false from by simp;omega,ak];exact .inr ⟨_,rfl,trivial⟩) n 0 0 ⟨rfl,Nat.zero_le _⟩ (by omega)
 simp only[fI,q9,h];cases o with
 |inl u=>cases u;simp only[eG,af];exact⟨_,rfl⟩
 |inr r=>simp only[iL,af];exact⟨_,rfl⟩
theorem akj{op a:Int}(h0:(op==0)=false)(h1:(op==1)=false)(h2:(op==2)=false)(h3:(op==3)=false)(h9:(op==9)=false)(Mo:(op==15)=false)(h16:(op==16)=false)(h:yV op=some (a,true)):a=2:=by
 simp only[yV,h0,h1,h2,h3,h9,Mo,h16,ak,af]at h;cases hd:decide (op>=0)with
 |true=>rw[hd]at h;simp only[aj,aA,Prod.mk.injEq]at h;exact h.1.symm
 |false=>rw[hd]at h;simp at h
section
variable {n:Nat} {a0:List eu} {ts:List dh} {a2:List dJ} {a3:List bI} {a4:List gq} {a5:List fq} {a6:List cu} {a7:Int} {zs:List ByteArray}
theorem XD(hn:4000002<=n)(ht:On ts)(hz:zs.length<=4000000):∀(m:Nat)(e:cB)(kn:U (ByteArray×Int)),VR m e->(toE e).wt<=4000000->∃v,cO n m a0 ts a2 a3 a4 a5 a6 a7 zs e kn=some (v,kn)
 | 0,_,_,h,_=>h.elim
 |m+1,e,kn,⟨ha,hr⟩,hw=>by
  have hla:=ace e;have hmx:maxLen=9223372036854775807:=rfl;show ∃v,fF n (cO n m) a0 ts a2 a3 a4 a5 a6 a7 zs e kn=some (v,kn)
  obtain⟨o,h1,l,rfl,hl⟩:=dI (step:=fB n (cO n m) a0 ts a2 a3 a4 a5 a6 a7 zs e) (λ i (v:Int×List (ByteArray×Int)×List Int)=>∃l,v=((i:Int),kn,l)/\i<=e.args.length/\l.length=i)
   (λ o=>∃l,o=(kn,l)/\l.length=e.args.length) e.args.length (λ k v ⟨_,_,h,_⟩=>h) (by
   rintro i v ⟨l,rfl,hi,hl⟩;by_cases hlt:i<e.args.length
   .left;have hwx:=Zs (getElem_mem hlt);obtain⟨x,hx⟩:=XD hn ht hz m e.args[i] kn (hr _ (getElem_mem hlt)) (by omega);have key:∃b,((bif (e.op==(16:Int))then(bif (decide ((i:Int)>(0:Int)))then(ck (cN 0 l.length) ((bo l ((0:Nat)+0:Int)).bind λx2=>some (!((x2 !=(0:Int))==((i:Int)==(1:Int))))))else some false)else some false):J (Bool))=some b:=by
     refine dn ?_ ⟨_,rfl⟩;by_cases h0:(i:Int)>0
     .simp only[h0,decide_true,aj,I7 (show 0<l.length by omega),Oy (show 0<l.length by omega),af];exact⟨_,rfl⟩
     .simp only[h0,decide_false,ak];exact⟨_,rfl⟩
    obtain⟨b,hb⟩:=key;have hap:∀z:Int,bP l.length l.length (sub [z] 0 1).length 1 8=true:=λz=>(by simp[bP,sub];omega);simp only[fB,show decide ((i:Int)<(e.args.length:Int))=true from by simp;omega,aj,bf hlt,af,hb,wR,hx,hap,dO,aC,aK i];cases b with
    |true=>exact⟨_,rfl,_,rfl,hlt,by simp[sub,hl]⟩
    |false=>exact⟨_,rfl,_,rfl,hlt,by simp[sub,hl]⟩
   .right;refine⟨(kn,l),?_,l,rfl,by omega⟩;simp only[fB,show decide ((i:Int)<(e.args.length:Int))=false from by simp;omega,ak,aC,aj]) n 0 ((0:Int),kn,[]) ⟨[],rfl,Nat.zero_le _,rfl⟩ (by omega)
  simp only[fF,length_nil,aC,aj,h1,af,wR,aki hn ht];cases h0:(e.op==0)with
  |true=>exact⟨_,rfl⟩
  |false=>
  cases h1:(e.op==1)with
  |true=>exact⟨_,rfl⟩
  |false=>
  cases h2:(e.op==2)with
  |true=>exact⟨_,rfl⟩
  |false=>
  cases h3:(e.op==3)with
  |true=>
   have⟨r,hr⟩:=Y8 (n:=n) (l:=zs) (s:=e.s) hz hn;have⟨r2,hr2⟩:=XC r;simp only[ak,aj,hr,hr2,af];exact⟨_,rfl⟩
  |false=>
  cases h9:(e.op==9)with
  |true=>
   have e9:e.op=9:=(by simpa using h9);rw[e9]at ha;have:l.length=1:=(by have h:some ((1:Int),true)=some ((e.args.length:Int),true):=ha;simp at h;omega);simp only[ak,aj,I7 (show 0<l.length by omega),Oy (show 0<l.length by omega),af];exact⟨_,rfl⟩
  |false=>
  cases Mo:(e.op==15)with
  |true=>
   have e15:e.op=15:=(by simpa using Mo);rw[e15]at ha;have:l.length=1:=(by have h:some ((1:Int),true)=some ((e.args.length:Int),true):=ha;simp at h;omega);obtain⟨r2,hr2⟩:=XC (l[0]'(by omega)==0);simp only[ak,aj,I7 (show 0<l.length by omega),Oy (show 0<l.length by omega),af,hr2];exact⟨_,rfl⟩
  |false=>
  cases h16:(e.op==16)with
  |true=>
   have e16:e.op=16:=(by simpa using h16);rw[e16]at ha;have:l.length=3:=(by have h:some ((3:Int),true)=some ((e.args.length:Int),true):=ha;simp at h;omega);simp only[ak,aj,I7 (show 0<l.length by omega),Oy (show 0<l.length by omega),aeW (show 1<l.length by omega),aiX (show 1<l.length by omega),amy (show 2<l.length by omega),aos (show 2<l.length by omega),af];cases (l[0]'(by omega) !=0)<;>exact⟨_,rfl⟩
  |false=>
   have:l.length=2:=(by have:=akj h0 h1 h2 h3 h9 Mo h16 ha;omega);obtain⟨r,hr⟩:=aeV e.op (l[0]'(by omega)) (l[1]'(by omega));simp only[ak,aj,I7 (show 0<l.length by omega),Oy (show 0<l.length by omega),aeW (show 1<l.length by omega),aiX (show 1<l.length by omega),af,hr];exact⟨_,rfl⟩
end
theorem ahi{ms:U bW}(h:ms.length<=4000000)(hn:4000002<=n):∃o,iter (jY n ms) n ((0:Int),([]:U (ByteArray×Int)),([]:U (ByteArray×Bool)))=some o:=by
 obtain⟨o,h,_⟩:=dI (step:=jY n ms) (λ i (v:Int×List (ByteArray×Int)×List (ByteArray×Bool))=>∃a b,v=((i:Int),a,b)/\i<=ms.length) (λ _=>True) ms.length (λ k v ⟨_,_,_,h⟩=>h) (by
  rintro i v ⟨a,b,rfl,hi⟩;by_cases hlt:i<ms.length
  .left;simp only[jY,show decide ((i:Int)<(ms.length:Int))=true from by simp;omega,aj,bf hlt,af,aK i];cases (!((eY Gb.lv ms[i].name b).getD false))<;>exact⟨_,rfl,_,_,rfl,hlt⟩
  .right;simp only[jY,show decide ((i:Int)<(ms.length:Int))=false from by simp;omega,ak];exact⟨_,rfl,trivial⟩) n 0 _ ⟨[],[],rfl,Nat.zero_le _⟩ (by omega)
 exact⟨o,h⟩
structure PA(p:bS):Prop where
 defs:ia p.defs
 tabs:On p.tables
theorem Ff{p:bS}{ms:U bW}{zs:U ByteArray}(hp:PA p)(hm:ms.length<=4000000)(hz:zs.length<=4000000)(hn:5000003<=n)(hn2:n<=9223372036854775000):∃kn ab,mE n p ms zs=some (p.defs,p.tables,p.zones,p.rules,p.caps,p.views,p.uk,p.hours,zs,kn,ab)/\ab.length=p.defs.length:=by
 obtain⟨⟨w1,w2⟩,hs1⟩:=ahi (n:=n) hm (by omega);have⟨r,hr,hrl,hrr,_⟩:=FT (n:=n) hp.defs hn;have hl:=hp.defs.len;have hmx:maxLen=9223372036854775807:=rfl;have hmk:xE (p.defs.length:Int) 8=true:=by simp[xE];omega
 simp only[mE,hs1,af,Int.le_refl,decide_true,Bool.true_and,show decide ((0:Int)<=(p.defs.length:Int))=true from by simp,hmk,aj,hr];cases hb:(r.2.2 !=(0:Int))with
 |true=>
  simp only[aj,Int.toNat_natCast,List.length_replicate,aC];exact⟨_,_,rfl,by simp⟩
 |false=>
  obtain⟨o,h1,kn,ab,rfl,h2⟩:=dI (step:=gJ n p zs w2 r) (λ i (v:Int×List (ByteArray×Int)×List Int)=>∃kn ab,v=((i:Int),kn,ab)/\i<=r.1.length/\ab.length=p.defs.length)
   (λ o=>∃kn ab,o=(kn,ab)/\ab.length=p.defs.length) r.1.length (λ k v ⟨_,_,_,h,_⟩=>h) (by
   rintro i v ⟨kn,ab,rfl,hi,hol⟩;by_cases hlt:i<r.1.length
   .left;have hk:=hrr r.1[i] (getElem_mem hlt);obtain⟨k,hk2⟩:=Int.eq_ofNat_of_zero_le hk.1;have hkd:k<p.defs.length:=(by omega);have hko:k<ab.length:=(by omega);have hbw:=hp.defs.body (getElem_mem hkd);obtain⟨b,hb1,hb2⟩:=Sg (n:=n) (by omega) hn2 hbw;simp only[gJ,show decide ((i:Int)<(r.1.length:Int))=true from by simp;omega,aj,aU hlt,aW hlt,af,hk2,bf hkd,hb1,Int.toNat_natCast,aU hkd,aW hko,aK i,show(((0:Nat):Int)+(k:Int)).toNat=k by omega];have step2:∀(RK:U (ByteArray×Int)) (out':U Int),out'.length=p.defs.length->∃RE,((bif (!((eY Gb.lv p.defs[k].name w2).getD false))then(bo out' ((0:Nat)+(k:Int):Int)).bind λx5=>some ((o6 Gb.lv p.defs[k].name x5 RK),out')else some (RK,out')):J ((List (ByteArray×Int))×(List Int)))=some (RE,out'):=by
     intro RK out' ho;cases (!((eY Gb.lv p.defs[k].name w2).getD false))with
     |true=>simp only[aj,aW (show k<out'.length by omega),af];exact⟨_,rfl⟩
     |false=>exact⟨_,rfl⟩
    cases b with
    |true=>
     obtain⟨v,hv⟩:=XD (n:=n) (a0:=p.defs) (a2:=p.zones) (a3:=p.rules) (a4:=p.caps) (a5:=p.views) (a6:=p.uk) (a7:=p.hours) (by omega) hp.tabs hz n _ kn (hb2 rfl) hbw;simp only[fE,hv,aj,af];obtain⟨kn2,h2⟩:=step2 kn (ab.set k v) (by simp[hol]);rw[h2];exact⟨_,rfl,_,_,rfl,hlt,by simp[hol]⟩
    |false=>
     simp only[ak,af];have⟨kn2,h2⟩:=step2 kn ab hol;rw[h2];exact⟨_,rfl,_,_,rfl,hlt,hol⟩
   .right;simp only[gJ,show decide ((i:Int)<(r.1.length:Int))=false from by simp;omega,ak];exact⟨_,rfl,_,_,rfl,hol⟩) n 0 ((0:Int),w1,List.replicate p.defs.length 0) ⟨_,_,rfl,Nat.zero_le _,by simp⟩ (by omega)
  simp only[ak,Int.toNat_natCast,h1,af,h2,aC,aj];exact⟨_,_,rfl,h2⟩
theorem all_eq{d:bn}(h:Xz d)(hn:1001<=n):wJ n d=some (kJ d):=by simp only[wJ,XA h hn,af,bX,aC,aj]
theorem Y9(a b:ByteArray)(h:a.size<=4000000):∃r,strings_Contains a b=some r:=by
 simp only[strings_Contains,Nat.ble_eq_true_of_le h,aj];exact⟨_,rfl⟩
theorem Si(c:Int):∃b,EI c=some b:=dn ⟨_,rfl⟩ ⟨_,rfl⟩
theorem ahj(c:Int):∃b,Qf c=some b:=dn ⟨_,rfl⟩ ⟨_,rfl⟩
theorem akk(c:Int):∃b,Ai c=some b:=sK (Si c) λ_=>dn ⟨_,rfl⟩ (sK (ahj c) λ_=>⟨_,rfl⟩)
theorem aeX{s:ByteArray}{i:Nat}(h:i<s.size):∃c,RI s (i:Int)=some c:=by
 simp only[RI,show decide (0<=(i:Int))=true from by simp,aj,Int.toNat_natCast];rw[getElem?_pos s i h];exact⟨_,rfl⟩
theorem akl{s:ByteArray}{φ:(Int×Unit)->J Bool}(h:∀c,∃b,φ (c,())=some b)(hs:s.size<=4000000)(hn:4000002<=n):∃r,NW n s φ=some r:=by
 obtain⟨o,h1,_⟩:=dI (step:=Ah s φ) (λ i (v:Int)=>v=(i:Int)/\i<=s.size) (λ _=>True) s.size (λ k v h=>h.2) (by
  rintro i v ⟨rfl,hi⟩;by_cases hlt:i<s.size
  .have⟨c,hc⟩:=aeX hlt;have⟨b,hb⟩:=h c;simp only[Ah,show decide ((i:Int)<(s.size:Int))=true from by simp;omega,aj,hc,af,hb,aK i];cases b with
   |true=>exact .inl ⟨_,rfl,rfl,hlt⟩
   |false=>exact .inr ⟨_,rfl,trivial⟩
  .simp only[Ah,show decide ((i:Int)<(s.size:Int))=false from by simp;omega,ak,af];exact .inr ⟨_,rfl,trivial⟩) n 0 0 ⟨rfl,Nat.zero_le _⟩ (by omega)
 simp only[NW,h1,af];exact⟨_,rfl⟩
theorem akm(s:ByteArray)(hn:4000002<=n):∃b,NY n s=some b/\(b=true->s.size<=20):=by
 simp only[NY];cases h0:(ByteArray.toList s==ByteArray.toList (⟨#[]⟩))with
 |true=>exact⟨false,by simp only[aj,af],λh=>(by cases h)⟩
 |false=>
  have hs:0<s.size:=by
   refine Nat.pos_of_ne_zero λh=>?_;have:s=⟨#[]⟩:=by
    obtain⟨⟨l⟩⟩:=s;have:l.length=0:=h;rw[List.eq_nil_of_length_eq_zero this]
   rw[this]at h0;simp at h0
  have⟨c,hc⟩:=aeX hs;have hc':RI s 0=some c:=hc;have⟨b,hb⟩:=Si c;simp only[ak,hc',af,hb];cases b with
  |false=>exact⟨false,by simp only[Bool.not_false,aj,af],λh=>(by cases h)⟩
  |true=>
   simp only[Bool.not_true,ak,af];by_cases h20:(s.size:Int)>20
   .exact⟨false,by simp only[h20,decide_true,aj],λh=>(by cases h)⟩
   .obtain⟨r,hr⟩:=akl (n:=n) (s:=s) (φ:=λ(y1:Int×Unit)=>Ai y1.1) (λ c=>akk c) (by omega) hn;simp only[h20,decide_false,ak,hr,af];exact⟨_,rfl,λ_=>by omega⟩
theorem akn(s:ByteArray)(hn:4000002<=n):∃b,wK n s=some b:=by
 have⟨b,hb,h20⟩:=akm (n:=n) s hn;simp only[wK,hb,af];cases b with
 |false=>exact⟨_,rfl⟩
 |true=>
  have hs:=h20 rfl;have hmx:maxLen=9223372036854775807:=rfl;have c1:VA (⟨#[32]⟩) s=true:=by
   have:(⟨#[32]⟩:ByteArray).size=1:=rfl;simp only[VA,aV];omega
  have c2:VA ((⟨#[32]⟩)++s) (⟨#[32]⟩)=true:=by
   have h1:(⟨#[32]⟩:ByteArray).size=1:=rfl;simp only[VA,aV,ByteArray.size_append];omega
  simp only[aj,c1,c2];refine sK (Y9 _ _ (Nat.le_of_ble_eq_true ?_)) λ_=>⟨_,rfl⟩
  kernel_rfl
theorem ako(a b:D2):∃r,xO a b=some r:=by
 unfold xO;rw[y9];exact dn (dn ⟨_,rfl⟩ ⟨_,rfl⟩) ⟨_,rfl⟩
theorem fV{l:U aH}{φ:(aH×Unit)->J Bool}(p:aH->Bool)(h:∀x∈l,φ (x,())=some (p x))(hl:l.length<1099511627776)(hn:l.length<n):fM n l φ=some (l.any p):=by
 have:qw n l φ=some (wW p l):=fJ p h hl hn;simp only[fM,this,af,xH]
theorem yg{l:U aH}{φ:(aH×Unit)->J Bool}(h:∀x∈l,∃b,φ (x,())=some b)(hl:l.length<1099511627776)(hn:l.length<n):fM n l φ=some (l.any λx=>(φ (x,())).getD false):=
 fV _ (λ x hx=>by have⟨b,hb⟩:=h x hx;rw[hb];rfl) hl hn
def Jn(d:bn):Prop:=∀p∈d.phases,p.gives.length<=1000
theorem ahk{l:U aH}(hl:l.length<=1000000)(hn:4000002<=n):iter (kQ n l) n (0:Int)=some (.inr false)\/(iter (kQ n l) n (0:Int)=some (.inl ())/\∀v∈l,okV v=true):=by
 obtain⟨o,h1,h2⟩:=dI (step:=kQ n l) (λ i (v:Int)=>v=(i:Int)/\i<=l.length/\∀x∈l.take i,okV x=true) (λ o=>o= .inr false\/(o= .inl ()/\∀v∈l,okV v=true)) l.length (λ k v h=>h.2.1) (by
  rintro i v ⟨rfl,hi,hall⟩;by_cases hlt:i<l.length
  .simp only[kQ,show decide ((i:Int)<(l.length:Int))=true from by simp;omega,aj,aU hlt,aW hlt,af,uF,aK i];cases hv:okV l[i]with
   |false=>exact .inr ⟨_,by simp only[Bool.not_false,aj,af];rfl,.inl rfl⟩
   |true=>
    have hsub:(sub l 0 i).length=i:=(by simp[sub];omega);have hc:=yg (n:=n) (l:=sub l 0 i) (φ:=λ(y1:aH×Unit)=>rq y1.1 l[i]) (λ x _=>sK (ako _ _) λ_=>⟨_,rfl⟩) (by omega) (by omega);simp only[Bool.not_true,ak,uY (show (0:Int)<=0 by omega) (show (0:Int)<=(i:Int)by omega) (show (i:Int)<=(l.length:Int)by omega),aj,Int.toNat_natCast,Et hsub,hc,af];cases ((sub l 0 i).any λx=>((λ (y1:aH×Unit)=>rq y1.1 l[i]) (x,())).getD false)with
    |true=>exact .inr ⟨_,rfl,.inl rfl⟩
    |false=>
     refine .inl ⟨_,rfl,rfl,hlt,λx hx=>?_⟩;rw[List.take_add_one,dQ hlt,aZ]at hx;rcases hx with hx |hx
     .exact hall x hx
     .simp at hx;subst hx;exact hv
  .refine .inr ⟨.inl (),?_,.inr ⟨rfl,λv hv=>hall v (by rw[take_of_length_le (by omega)];exact hv)⟩⟩;simp only[kQ,show decide ((i:Int)<(l.length:Int))=false from by simp;omega,ak]) n 0 0 ⟨rfl,Nat.zero_le _,by simp⟩ (by omega)
 rcases h2 with rfl |⟨rfl,h2⟩
 .exact .inl h1
 .exact .inr ⟨h1,h2⟩
theorem ahl{p:tF}(hp:p.gives.length<=1000)(hn:4000002<=n):iter (kR n p) n ((0:Int),([]:U (ByteArray×Bool)))=some (.inl ())\/iter (kR n p) n ((0:Int),([]:U (ByteArray×Bool)))=some (.inr (.inr (.inr false))):=by
 obtain⟨o,h1,h2⟩:=dI (step:=kR n p) (λ i (v:Int×List (ByteArray×Bool))=>∃m,v=((i:Int),m)/\i<=p.gives.length) (λ o=>o= .inl ()\/o= .inr (.inr (.inr false))) p.gives.length (λ k v ⟨_,_,h⟩=>h) (by
  rintro i v ⟨m,rfl,hi⟩;by_cases hlt:i<p.gives.length
  .have key:∃b,((bif ((eY Gb.lv p.gives[i].name m).getD false)then some true else(wK n p.gives[i].name).bind λr4=>(bif (!r4)then some true else(bif (decide (p.gives[i].n<(0:Int)))then some true else some (decide (p.gives[i].n>(1073741824:Int)))))):J (Bool))=some b:=
    dn ⟨_,rfl⟩ (sK (akn _ hn) λ_=>dn ⟨_,rfl⟩ (dn ⟨_,rfl⟩ ⟨_,rfl⟩))
   obtain⟨b,hb⟩:=key;simp only[kR,show decide ((i:Int)<(p.gives.length:Int))=true from by simp;omega,aj,bf hlt,af,hb,aK i];cases b with
   |true=>exact .inr ⟨_,rfl,.inr rfl⟩
   |false=>exact .inl ⟨_,rfl,_,rfl,hlt⟩
  .simp only[kR,show decide ((i:Int)<(p.gives.length:Int))=false from by simp;omega,ak];exact .inr ⟨_,rfl,.inl rfl⟩) n 0 _ ⟨[],rfl,Nat.zero_le _⟩ (by omega)
 rcases h2 with rfl |rfl
 .exact .inl h1
 .exact .inr h1
theorem ahm{d:bn}(hd:Xz d)(hg:Jn d)(hn:4000002<=n):iter (kS n d) n (0:Int)=some (.inl ())\/iter (kS n d) n (0:Int)=some (.inr false):=by
 have hd1:=hd.1;obtain⟨o,h1,h2⟩:=dI (step:=kS n d) (λ i (v:Int)=>v=(i:Int)/\i<=d.phases.length) (λ o=>o= .inl ()\/o= .inr false) d.phases.length (λ k v h=>h.2) (by
  rintro i v ⟨rfl,hi⟩;by_cases hlt:i<d.phases.length
  .simp only[kS,show decide ((i:Int)<(d.phases.length:Int))=true from by simp;omega,aj,bf hlt,af,aK i];rcases ahl (n:=n) (hg _ (getElem_mem hlt)) hn with h |h
   .simp only[h,eG];cases decide ((d.phases[i].gives.length:Int)>30)with
    |true=>exact .inr ⟨_,rfl,.inr rfl⟩
    |false=>exact .inl ⟨_,rfl,rfl,hlt⟩
   .simp only[h,iL];exact .inr ⟨_,rfl,.inr rfl⟩
  .simp only[kS,show decide ((i:Int)<(d.phases.length:Int))=false from by simp;omega,ak];exact .inr ⟨_,rfl,.inl rfl⟩) n 0 0 ⟨rfl,Nat.zero_le _⟩ (by omega)
 rcases h2 with rfl |rfl
 .exact .inl h1
 .exact .inr h1
theorem Ke{d:bn}(hd:Xz d):(kJ d).length<=1000000:=by
 have:=ed hd.2;have:=hd.1;unfold kJ;omega
theorem aot{d:bn}(hd:Xz d)(hg:Jn d)(hn:4000002<=n):∃b,xP n d=some b/\(b=true->∀v∈kJ d,okV v=true):=by
 simp only[xP,all_eq hd (show 1001<=n by omega),af];have key:∀c1 c2 c3 c4 c5 c6:Bool,∃b,((bif c1 then some true else(bif c2 then some true else(bif c3 then some true else(bif c4 then some true else(bif c5 then some true else some c6))))):J Bool)=some b:=by
  intro c1 c2 c3 c4 c5 c6;exact dn ⟨_,rfl⟩ (dn ⟨_,rfl⟩ (dn ⟨_,rfl⟩ (dn ⟨_,rfl⟩ (dn ⟨_,rfl⟩ ⟨_,rfl⟩))))
 have⟨b,hb⟩:=key (decide (d.lot<0)) (decide (d.lot>1073741824)) (decide ((d.phases.length:Int)<1)) (decide ((d.phases.length:Int)>8)) (decide (((kJ d).length:Int)<1)) (decide (((kJ d).length:Int)>40));rw[hb];cases b with
 |true=>exact⟨false,rfl,λh=>(by cases h)⟩
 |false=>
  simp only[af,ak];rcases ahk (n:=n) (Ke hd) hn with h |⟨h,hall⟩
  .simp only[h,iL];exact⟨false,rfl,λh=>(by cases h)⟩
  .simp only[h,eG];rcases ahm (n:=n) hd hg hn with h2 |h2
   .simp only[h2,eG];exact⟨true,rfl,λ_=>hall⟩
   .simp only[h2,iL];exact⟨false,rfl,λh=>(by cases h)⟩
theorem Fg{l:U gq}{φ:(gq×Unit)->J Bool}(p:gq->Bool)(h:∀x∈l,φ (x,())=some (p x))(hl:l.length<1099511627776)(hn:l.length<n):mM n l φ=some (l.any p):=by
 have:vk n l φ=some (wW p l):=fJ p h hl hn;simp only[mM,this,af,xH]
theorem amA{lot:cK}{l:U aH}(ha:lot.area.length<=900)(hv:∀v∈l,okV v=true)(hl:l.length<=1000000)(hn:4000002<=n):iter (jV n lot l) n (0:Int)=some (.inl ())\/iter (jV n lot l) n (0:Int)=some (.inr false):=by
 obtain⟨o,h1,h2⟩:=dI (step:=jV n lot l) (λ i (v:Int)=>v=(i:Int)/\i<=l.length) (λ o=>o= .inl ()\/o= .inr false) l.length (λ k v h=>h.2) (by
  rintro i v ⟨rfl,hi⟩;by_cases hlt:i<l.length
  .have hb:=Xy (hv _ (getElem_mem hlt));have hcl:=Oo (keep:=λp q=>p&&q) lot.area [iq l[i]];have hc:=Om (n:=n) (a:=lot.area) (b:=[iq l[i]]) (by omega) (by simp) (by omega) (by simp;omega) (by omega);have hA:=LQ (n:=n) (a:=(pJ (λ p q=>p&&q) lot.area [iq l[i]]).1) (by omega) (by omega);have hr:=Di hb;simp only[iq]at hc hA hr;simp only[jV,show decide ((i:Int)<(l.length:Int))=true from by simp;omega,aj,aU hlt,aW hlt,af,show ∀r:ax,sub [r] 0 1=[r]from λ_=>rfl,length_singleton,aC,hc,hA,hr,aK i];have key:∀c x:Bool,∃b,((bif c then some true else some x):J Bool)=some b:=λc x=>dn ⟨_,rfl⟩ ⟨_,rfl⟩;obtain⟨b,hb2⟩:=key ((pJ (λ p q=>p&&q) lot.area [⟨l[i].bz,l[i].cC,l[i].bx,l[i].cz⟩]).2 !=0) (decide ((bif c7 (pJ (λ p q=>p&&q) lot.area [⟨l[i].bz,l[i].cC,l[i].bx,l[i].cz⟩]).1 then LP (pJ (λ p q=>p&&q) lot.area [⟨l[i].bz,l[i].cC,l[i].bx,l[i].cz⟩]).1 else 0)<Lw ⟨l[i].bz,l[i].cC,l[i].bx,l[i].cz⟩));rw[hb2];cases b with
   |true=>exact .inr ⟨_,rfl,.inr rfl⟩
   |false=>exact .inl ⟨_,rfl,rfl,hlt⟩
  .simp only[jV,show decide ((i:Int)<(l.length:Int))=false from by simp;omega,ak];exact .inr ⟨_,rfl,.inl rfl⟩) n 0 0 ⟨rfl,Nat.zero_le _⟩ (by omega)
 rcases h2 with rfl |rfl
 .exact .inl h1
 .exact .inr h1
theorem amB{p:bS}{ph:tF}(hc:p.caps.length<=4000000)(hp:ph.gives.length<=1000)(hn:4000002<=n):iter (jW n p ph) n (0:Int)=some (.inl ())\/iter (jW n p ph) n (0:Int)=some (.inr (.inr (.inr false))):=by
 obtain⟨o,h1,h2⟩:=dI (step:=jW n p ph) (λ i (v:Int)=>v=(i:Int)/\i<=ph.gives.length) (λ o=>o= .inl ()\/o= .inr (.inr (.inr false))) ph.gives.length (λ k v h=>h.2) (by
  rintro i v ⟨rfl,hi⟩;by_cases hlt:i<ph.gives.length
  .simp only[jW,show decide ((i:Int)<(ph.gives.length:Int))=true from by simp;omega,aj,bf hlt,af,Fg (n:=n) (l:=p.caps) (φ:=λ(y1:gq×Unit)=>vg y1.1 ph.gives[i]) (λ c=>ByteArray.toList c.name==ByteArray.toList ph.gives[i].name) (λ _ _=>rfl) (by omega) (by omega),aK i];cases (p.caps.any λc=>ByteArray.toList c.name==ByteArray.toList ph.gives[i].name)with
   |false=>exact .inr ⟨_,rfl,.inr rfl⟩
   |true=>exact .inl ⟨_,rfl,rfl,hlt⟩
  .simp only[jW,show decide ((i:Int)<(ph.gives.length:Int))=false from by simp;omega,ak];exact .inr ⟨_,rfl,.inl rfl⟩) n 0 0 ⟨rfl,Nat.zero_le _⟩ (by omega)
 rcases h2 with rfl |rfl
 .exact .inl h1
 .exact .inr h1
theorem amC{p:bS}{d:bn}(hc:p.caps.length<=4000000)(hd:Xz d)(hg:Jn d)(hn:4000002<=n):iter (jX n p d) n (0:Int)=some (.inl ())\/iter (jX n p d) n (0:Int)=some (.inr false):=by
 have hd1:=hd.1;obtain⟨o,h1,h2⟩:=dI (step:=jX n p d) (λ i (v:Int)=>v=(i:Int)/\i<=d.phases.length) (λ o=>o= .inl ()\/o= .inr false) d.phases.length (λ k v h=>h.2) (by
  rintro i v ⟨rfl,hi⟩;by_cases hlt:i<d.phases.length
  .simp only[jX,show decide ((i:Int)<(d.phases.length:Int))=true from by simp;omega,aj,bf hlt,af,aK i];rcases amB (n:=n) hc (hg _ (getElem_mem hlt)) hn with h |h
   .simp only[h,eG];exact .inl ⟨_,rfl,rfl,hlt⟩
   .simp only[h,iL];exact .inr ⟨_,rfl,.inr rfl⟩
  .simp only[jX,show decide ((i:Int)<(d.phases.length:Int))=false from by simp;omega,ak];exact .inr ⟨_,rfl,.inl rfl⟩) n 0 0 ⟨rfl,Nat.zero_le _⟩ (by omega)
 rcases h2 with rfl |rfl
 .exact .inl h1
 .exact .inr h1
theorem akp{p:bS}{lot:cK}{d:bn}(hc:p.caps.length<=4000000)(ha:lot.area.length<=900)(hd:Xz d)(hg:Jn d)(hn:4000002<=n):∃b,oG n p lot d=some b/\(b=true->∀v∈kJ d,okV v=true):=by
 have⟨b,hb,hv⟩:=aot (n:=n) hd hg hn;simp only[oG,hb,af];cases b with
 |false=>exact⟨false,by simp only[Bool.not_false,aj,af],λh=>(by cases h)⟩
 |true=>
  simp only[Bool.not_true,ak,lY (n:=n) (l:=lot.area) (by omega) (by omega) (by omega),af];cases (lot.id !=d.lot)with
  |true=>exact⟨false,by simp only[aj,af],λh=>(by cases h)⟩
  |false=>
   cases c7 lot.area with
   |false=>exact⟨false,by simp only[Bool.not_false,aj,ak,af],λh=>(by cases h)⟩
   |true=>
    simp only[Bool.not_true,ak,af,all_eq hd (show 1001<=n by omega)];rcases amA (n:=n) ha (hv rfl) (Ke hd) hn with h |h
    .simp only[h,eG];rcases amC (n:=n) hc hd hg hn with h2 |h2
     .simp only[h2,eG];exact⟨true,rfl,λ_=>hv rfl⟩
     .simp only[h2,iL];exact⟨false,rfl,λh=>(by cases h)⟩
    .simp only[h,iL];exact⟨false,rfl,λh=>(by cases h)⟩
end Go.Proofs
