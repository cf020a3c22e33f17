import Derived.Test.YtakagljmnddfdaaGreatTD1
open Go.IntKind (i64)
open List (length_take mem_map all_eq_true getElem_mem length_map mem_iff_getElem append_nil length_drop length_nil foldl_cons take_of_length_le any_eq_true length_singleton pairwise_cons map_nil filter_append length_filter_le map_append any_eq_false pairwise_append getElem_drop)
namespace Go.Proofs
open Go.Gb Go.RowKit
variable {n:Nat}
theorem kT(a b:Int):cmp_Compare_int a b=some (if a<b then -1 else if b<a then 1 else 0):=by
 by_cases h1:a<b
 .simp[cmp_Compare_int,cmp_isNaN_int,h1]
 .by_cases h2:b<a
  .simp[cmp_Compare_int,cmp_isNaN_int,h1,h2]
  .simp[cmp_Compare_int,cmp_isNaN_int,h1,h2]
theorem nP{l:U Int}(hl:l.length<1099511627776)(_:l.length<n):nR n l=some (kD m9 l):=by
 show LS l=_;unfold LS;rw[Nat.ble_eq_true_of_le (show l.length<=1099511627775 by omega),aj]
theorem qa{l:U Int}(hl:l.length<1099511627776)(hn:l.length<n):nL n l=some ((),gT l):=by
 rw[<- afR];exact Mr (eq:=λx y=>x==y) (ne:=λx y=>x !=y) (λ x y=>by simp[bne]) hl hn
theorem UQ{l:U Int}{a:Int}(hl:l.length<1099511627776)(hn:l.length<n):FK n l a=some (zI (λ x=>a==x) l):=Uj hl hn
theorem M6{l:U Int}{a:Int}(hl:l.length<1099511627776)(hn:l.length<n):tK n l a=some (l.any λx=>a==x):=by
 unfold tK;rw[UQ hl hn,af,uL]
theorem GL{l:U bT}{φ:(bT×Unit)->J Bool}(p:bT->Bool)(h:∀x∈l,φ (x,())=some (p x))(hl:l.length<1099511627776)(hn:l.length<n):tV n l φ=some (zI p l):=fT p h hl hn
theorem GN{l:U bQ}{φ:(bQ×Unit)->J Bool}(p:bQ->Bool)(h:∀x∈l,φ (x,())=some (p x))(hl:l.length<1099511627776)(hn:l.length<n):kP n l φ=some (zI p l):=fT p h hl hn
theorem RL{l:U ax}(h:l.length<1099511627776):Cn l=some l:=xE (b:=32) (by omega) (by simp only[maxLen];omega)
theorem yc{l:U Int}(h:l.length<1099511627776):nZ l=some l:=xE (b:=8) (by omega) (by simp only[maxLen];omega)
theorem Pq{l:U (List ax)}(hf:l.flatten.length<1099511627776)(hl:l.length<1099511627776)(hn:l.length<n):zN n l=some l.flatten:=OQ (ax.mk 0 0 0 0) (b:=32) hf (by omega) hl hn
theorem Ef{a b:U ax}(hl:a.length<1099511627776)(hn:a.length<n):pI n a b=some (decide (a=b)):=by
 have e:pI n a b=Wn n (λ x1 x2:ax=>!((x1.x0==(x2.x0:Int))&&((x1.y0==(x2.y0:Int))&&((x1.x1==(x2.x1:Int))&&((x1.y1==(x2.y1:Int))&&true))))) a b:=by kernel_rfl
 rw[e];refine Uk (λ x y=>?_) hl hn;obtain⟨a,b,c,d⟩:=x;obtain⟨e,f,g,h⟩:=y;simp only[ax.mk.injEq,Bool.and_true];rw[fB];simp
theorem Eg{a b:U aN}(hl:a.length<1099511627776)(hn:a.length<n):wO n a b=some (decide (a=b)):=by
 have e:wO n a b=Wn n (λ x1 x2:aN=>!((x1.from_==(x2.from_:Int))&&((x1.to==(x2.to:Int))&&true))) a b:=by kernel_rfl
 rw[e];refine Uk (λ x y=>?_) hl hn;obtain⟨a,b⟩:=x;obtain⟨c,d⟩:=y;simp only[aN.mk.injEq,Bool.and_true];rw[fB];simp
abbrev s6(a b:aN):Bool:=decide (a.from_<b.from_)
theorem Ps:Go.Sort.SWO s6 where
 irrefl x:=by simp[s6]
 trans x y z h1 h2:=by simp only[s6,aJ]at *;omega
 ntrans x y z h1 h2:=by simp only[s6,dD]at *;omega
theorem Lg{l:U aN}{φ:(aN×aN×Unit)->J Int}(f:aN->aN->Int)(hφ:∀x y,φ (x,y,())=some (f x y))(hf:∀x y,decide (f x y<0)=s6 x y)(hl:l.length<1099511627776)(_:l.length<n):wE n l φ=some (oQ s6 l):=
 afZ f hφ hf Ps hl
theorem akd{V O:Type}{step:V->J (V⊕O)}(Inv:V->Prop)(Post:O->Prop)(μ:V->Nat)
 (h:∀v,Inv v->(∃ v',step v=some (.inl v')/\Inv v'/\μ v'< μ v)\/∃o,step v=some (.inr o)/\Post o):∀(n:Nat)(v:V),Inv v->μ v<n->∃o,iter step n v=some o/\Post o
 | 0,_,_,hn=>absurd hn (Nat.not_lt_zero _)
 |n+1,v,hi,hn=>by
  rcases h v hi with ⟨v',h1,h2,h3⟩ |⟨o,h1,h2⟩
  .rw[kM h1];exact akd Inv Post μ h n v' h2 (by omega)
  .exact⟨o,fJ h1,h2⟩
theorem JH:∀(N:Nat)(l:U Nat),l.Nodup->(∀ y∈l,y<N)->l.length<=N
 | 0,[],_,_=>aC _
 | 0,x::l,_,h=>absurd (h x (by simp)) (by omega)
 |N+1,l,hn,h=>by
  have h1:=JH N (l.filter λy=>decide (y≠N)) (hn.filter _) (λ y hy=>by
   rw[List.mem_filter]at hy;have:=h y hy.1;have:=hy.2;simp only[aJ]at this;omega)
  have h2:=List.length_eq_countP_add_countP (λ y=>decide (y≠N)) (l:=l);rw[List.countP_eq_length_filter]at h2;have h3:List.countP (λ a=>decide ¬(decide (a≠N)=true)) l=l.count N:=by
   rw[List.count];refine List.countP_congr λy _=>?_;simp
  have h4:=List.nodup_iff_count.1 hn N;omega
def ws(us:U (List Int))(N:Nat):Prop:=us.length=N/\N<=4000000/\∀l∈us,l.length<=4000000/\∀k∈l,0<=k/\k<(N:Int)
structure BI(us:List (List Int))(N to h:Nat)(d:List Int)(F:List Nat):Prop where
 dl:d.length=N
 nd:F.Nodup
 rg:∀x∈F,x<N
 mem:∀i:Nat,i<N->(0<=d.getD i 0↔i∈F)
 ub:∀j x:Nat,F[j]? =some x->d.getD x 0<=(j:Int)
 pre:∀j x:Nat,F[j]? =some x->0<j->∃p y:Nat,p<j/\F[p]? =some y/\(y:Int)∈us.getD x []/\d.getD y 0=d.getD x 0 -1
 hd:F[0]? =some to/\d.getD to 0=0
 hh:h<=F.length
 cl:∀p y:Nat,p<h->F[p]? =some y->∀i:Nat,i<N->(y:Int)∈us.getD i []->0<=d.getD i 0
theorem BI.len{us:U (List Int)}{N to h:Nat}{d:U Int}{F:U Nat}(b:BI us N to h d F):F.length<=N:=by exact JH N F b.nd b.rg
theorem BI.push{us:U (List Int)}{N to h:Nat}{d:U Int}{F:U Nat}(b:BI us N to h d F){i x p:Nat}(hi:i<N)(hd:d.getD i 0<0)(hp:F[p]? =some x)(hx:(x:Int)∈us.getD i []):
 BI us N to h (d.set i (d.getD x 0+1)) (F++[i]):=by
 have hiF:i∉F:=λhm=>by have:=(b.mem i hi).2 hm;omega
 have SM:x∈F:=cO hp;have hne:∀y,y∈F->i≠y:=λy hy e=>hiF (e ▸ hy);have hset:∀y,y∈F->(d.set i (d.getD x 0+1)).getD y 0=d.getD y 0:=λy hy=>by simp only[List.getD,List.getElem?_set_ne (hne y hy)]
 have vh:(d.set i (d.getD x 0+1)).getD i 0=d.getD x 0+1:=by
  have:i<d.length:=by rw[b.dl];exact hi
  simp[List.getD,this]
 have hx0:0<=d.getD x 0:=(b.mem x (b.rg x SM)).2 SM;have hlt:p<F.length:=(dh.1 hp).1;refine⟨by simpa using b.dl,?_,?_,?_,?_,?_,?_,?_,?_⟩
 .rw[List.nodup_append];exact⟨b.nd,by simp,λa ha c hc=>by simp at hc;subst hc;exact λe=>hiF (e ▸ ha)⟩
 .intro y hy;rw[bg]at hy;rcases hy with hy |hy
  .exact b.rg y hy
  .simp at hy;omega
 .intro j hj;by_cases e:i=j
  .subst e;rw[vh];exact⟨λ _=>by simp,λ_=>by omega⟩
  .simp only[List.getD,List.getElem?_set_ne e];rw[bg];have:=b.mem j hj;simp only[List.getD]at this;rw[this];simp[Ne.symm e]
 .intro j y hy;rw[List.getElem?_append]at hy;split at hy
  .rw[hset y (cO hy)];exact b.ub j y hy
  .rename_i hj;have:y=i/\j=F.length:=by
    cases h:j -F.length with
    |zero=>rw[h]at hy;simp at hy;exact⟨hy.symm,by omega⟩
    |succ z=>rw[h]at hy;simp at hy
   obtain⟨rfl,rfl⟩:=this;rw[vh];have:=b.ub p x hp;omega
 .intro j y hy hj;rw[List.getElem?_append]at hy;split at hy
  .have⟨p',y',h1,h2,h3,h4⟩:=b.pre j y hy hj;exact⟨p',y',h1,by rw[List.getElem?_append_left (by have:=(dh.1 h2).1;exact this)];exact h2,h3,by rw[hset y' (cO h2),hset y (cO hy)];exact h4⟩
  .rename_i hj';have:y=i/\j=F.length:=by
    cases h:j -F.length with
    |zero=>rw[h]at hy;simp at hy;exact⟨hy.symm,by omega⟩
    |succ z=>rw[h]at hy;simp at hy
   obtain⟨rfl,rfl⟩:=this;exact⟨p,x,hlt,by rw[List.getElem?_append_left hlt];exact hp,hx,by rw[vh,hset x SM];omega⟩
 .have h0:=(dh.1 b.hd.1).1;exact⟨by rw[List.getElem?_append_left h0];exact b.hd.1,by rw[hset _ (cO b.hd.1)];exact b.hd.2⟩
 .have:=b.hh;simp;omega
 .intro p' y hp' hy j hj hm;rw[List.getElem?_append_left (by have:=b.hh;omega)]at hy;have:=b.cl p' y hp' hy j hj hm;rw[hset j ((b.mem j hj).1 this)];exact this
theorem pb{α:Type}(o:Nat)(l:U α):XG o l=l.drop o:=by cases o<;>simp[XG]
def BS(us:U (List Int))(N to h x:Nat):(Int×Int×List Int×List Int)->Prop
 |(v4,v5,d,v7)=>∃(o i:Nat)(F:U Nat),v4=(o:Int)/\v5=(i:Int)/\o<=v7.length/\v7.drop o=(F.drop (h+1)).map (λ k:Nat=>(k:Int))/\i<=N/\BI us N to h d F/\F[h]? =some x/\∀i',i'<i->(x:Int)∈us.getD i' []->0<=d.getD i' 0
theorem ao8{n N to h x:Nat}{a0:ql}{r1:U Int}(hg:ws a0.uses N)(hr:r1.length=N)(hn:4000001<=n)(v:Int×Int×List Int×List Int)(hv:BS a0.uses N to h x v):
 (∃ v',gm n a0 r1 x v=some (.inl v')/\BS a0.uses N to h x v'/\N -v'.2.1.toNat<N -v.2.1.toNat)\/
 ∃q,gm n a0 r1 x v=some (.inr q)/\∃(o:Nat)(F:U Nat),q.1=(o:Int)/\o<=q.2.2.length/\q.2.2.drop o=(F.drop (h+1)).map (λ k:Nat=>(k:Int))/\BI a0.uses N to (h+1) q.2.1 F:=by
 obtain⟨v4,v5,d,v7⟩:=v;obtain⟨o,i,F,rfl,rfl,ho,hq,hi,hb,hx,hc⟩:=hv;have hx':x<N:=hb.rg x (cO hx);have Fm:=hg.1;have hdl:=hb.dl;by_cases hlt:i<N
 .left;have vx:i<a0.uses.length:=by omega
  have hl:=hg.2.2 a0.uses[i] (getElem_mem vx);have hcon:=M6 (n:=n) (l:=a0.uses[i]) (a:=(x:Int)) (by omega) (by omega);have hud:a0.uses.getD i []=a0.uses[i]:=by simp[List.getD,vx]
  have hdi:d[i]'(by omega)=d.getD i 0:=by simp[List.getD,show i<d.length by omega]
  have Fo:d[x]'(by omega)=d.getD x 0:=by simp[List.getD,show x<d.length by omega]
  simp only[gm,show decide ((i:Int)<((a0.uses.length:Int)))=true from by simp;omega,aj,bf vx,af,bE (show i<r1.length by omega),bE (show x<r1.length by omega),
   bJ (show i<d.length by omega),bJ (show x<d.length by omega),hcon,hdi,Fo]
  have hFl:=hb.len;have hN:=hg.2.1;have hlen:v7.length -o=F.length -(h+1):=by have:=congrArg List.length hq;simpa using this
  have hmx:maxLen=9223372036854775807:=rfl;by_cases hA:d.getD i 0<0/\(x:Int)∈a0.uses[i]
  .have h1:(a0.uses[i].any λy=>(x:Int)==y)=true:=any_eq_true.2 ⟨_,hA.2,by simp⟩;have hx0:0<=d.getD x 0:=(hb.mem x hx').2 (cO hx);have hxu:=hb.ub h x hx;have TX:h<F.length:=(dh.1 hx).1;have hap:bP (v7.drop o).length (v7.length -o) (sub [(i:Int)] 0 1).length 1 8=true:=(by simp[bP,sub];omega);have hw:i64.wrap (d.getD x 0+1)=d.getD x 0+1:=dI (by omega) (by omega);refine⟨(((0:Nat):Int),((i+1:Nat):Int),d.set i (d.getD x 0+1),v7.drop o++[(i:Int)]),?_,?_,by show N -((i+1:Nat):Int).toNat<N -(i:Int).toNat;omega⟩
   .simp only[hA.1,decide_true,aj,af,h1,Int.toNat_natCast,pb,hap,dY,hw,aP i];simp[be,sub]
   .refine⟨0,i+1,F++[i],rfl,rfl,Nat.zero_le _,?_,by omega,hb.push hlt hA.1 hx (by rw[hud];exact hA.2),by rw[List.getElem?_append_left TX];exact hx,?_⟩
    .rw[List.drop_zero,hq,List.drop_append_of_le_length (by omega)];simp
    .intro i' hi' hm;have hpush:=hb.push hlt hA.1 hx (by rw[hud];exact hA.2);by_cases e:i'=i
     .subst e;exact(hpush.mem i' hlt).2 (by simp)
     .have:=hc i' (by omega) hm;exact(hpush.mem i' (by omega)).2 (List.mem_append_left _ ((hb.mem i' (by omega)).1 this))
  .have hB:(bif decide (d.getD i 0<0)then some (a0.uses[i].any λy=>(x:Int)==y)else some false)=some false:=by
    by_cases h2:d.getD i 0<0
    .simp only[h2,decide_true,aj,ay];cases hc:(a0.uses[i].any λy=>(x:Int)==y)with
     |false=>rfl
     |true=>
      obtain⟨y,hy,e⟩:=any_eq_true.1 hc;obtain rfl:(x:Int)=y:=(by simpa using e);exact absurd ⟨h2,hy⟩ hA
    .simp only[h2,decide_false,ak]
   refine⟨((o:Int),((i+1:Nat):Int),d,v7),?_,?_,by show N -((i+1:Nat):Int).toNat<N -(i:Int).toNat;omega⟩
   .rw[hB];simp only[af,ak,Int.toNat_natCast,Rq (show o+(v7.length -o)=v7.length by omega),aj,aP i]
   .refine⟨o,i+1,F,rfl,rfl,ho,hq,by omega,hb,hx,λi' hi' hm=>?_⟩;by_cases e:i'=i
    .subst e;rw[hud]at hm;exact Int.not_lt.1 λh2=>hA ⟨h2,hm⟩
    .exact hc i' (by omega) hm
 .right;have hiN:i=N:=by omega
  have TX:h<F.length:=(dh.1 hx).1;refine⟨((o:Int),d,v7),?_,o,F,rfl,ho,hq,?_⟩
  .simp only[gm,show decide ((i:Int)<((a0.uses.length:Int)))=false from by simp;omega,ak,Int.toNat_natCast,Rq (show o+(v7.length -o)=v7.length by omega),aj]
  .refine⟨hb.dl,hb.nd,hb.rg,hb.mem,hb.ub,hb.pre,hb.hd,TX,λp y hp hy j hj hm=>?_⟩;by_cases e:p=h
   .subst e;rw[hx]at hy;cases hy;exact hc j (by omega) hm
   .exact hb.cl p y (by omega) hy j hj hm
def BO(us:U (List Int))(N to h:Nat):(Int×List Int×List Int)->Prop
 |(v1,d,v3)=>∃(o:Nat)(F:U Nat),v1=(o:Int)/\o<=v3.length/\v3.drop o=(F.drop h).map (λ k:Nat=>(k:Int))/\BI us N to h d F
theorem ao9{n N to h:Nat}{a0:ql}{r1:U Int}(hg:ws a0.uses N)(hr:r1.length=N)(hn:4000001<=n)(v:Int×List Int×List Int)(hv:BO a0.uses N to h v):
 (∃ v',eF n a0 r1 v=some (.inl v')/\BO a0.uses N to (h+1) v')\/∃d,eF n a0 r1 v=some (.inr d)/\∃F,BI a0.uses N to F.length d F:=by
 obtain⟨v1,d,v3⟩:=v;obtain⟨o,F,rfl,ho,hq,hb⟩:=hv;have hlen:v3.length -o=F.length -h:=by have:=congrArg List.length hq;simpa using this
 by_cases hlt:h<F.length
 .left;obtain⟨x,hx⟩:∃x,F[h]? =some x:=⟨_,bX hlt⟩;have hox:v3[o]? =some (x:Int):=by
   have:=congrArg (λ l=>l[0]?) hq;simpa[hx]using this
  have hdr:v3.drop (o+1)=(F.drop (h+1)).map (λ k:Nat=>(k:Int)):=by
   have:=congrArg (λ l=>l.drop 1) hq;simpa using this
  obtain⟨q,hq1,o2,F2,hq2,hq3,hq4,hq5⟩:=akd (BS a0.uses N to h x) (λ q:Int×List Int×List Int=>∃(o:Nat)(F:U Nat),q.1=(o:Int)/\o<=q.2.2.length/\q.2.2.drop o=(F.drop (h+1)).map (λ k:Nat=>(k:Int))/\BI a0.uses N to (h+1) q.2.1 F)
   (λ v=>N -v.2.1.toNat) (ao8 (r1:=r1) hg hr hn) n (((o+1:Nat):Int),0,d,v3) ⟨o+1,0,F,rfl,rfl,by omega,hdr,Nat.zero_le _,hb,hx,λi' hi'=>absurd hi' (Nat.not_lt_zero _)⟩ (by have:=hg.2.1;simp;omega)
  obtain⟨w1,w2,w3⟩:=q;simp only at hq2 hq3 hq4 hq5;subst hq2;refine⟨((o2:Int),w2,w3),?_,o2,F2,rfl,hq3,hq4,hq5⟩;have hat:br v3 ((o:Int)+0)=some (x:Int):=by rw[Int.add_zero,P1];exact hox
  simp only[eF,Int.toNat_natCast,show decide (((v3.length -o:Nat):Int)>0)=true from by simp;omega,aj,show co 0 (v3.length -o)=true from by simp[co];omega,hat,af,
   wz (show (0:Int)<=1 by omega) (show (1:Int)<=((v3.length -o:Nat):Int)by omega) (Int.le_refl _),Rq (show o+1+(v3.length -o -1)=v3.length by omega),hq1,Rq (show o2+(w3.length -o2)=w3.length by omega)]
 .right;have hhF:h=F.length:=by have:=hb.hh;omega
  refine⟨d,?_,F,hhF ▸ hb⟩;simp only[eF,Int.toNat_natCast,show decide (((v3.length -o:Nat):Int)>0)=false from by simp;omega,ak]
theorem fQ{V O:Type}{step:V->J (V⊕O)}(Inv:Nat->V->Prop)(Post:O->Prop)(K:Nat)(hK:∀k v,Inv k v->k<=K)
 (h:∀k v,Inv k v->(∃ v',step v=some (.inl v')/\Inv (k+1) v')\/∃o,step v=some (.inr o)/\Post o):∀(n k:Nat)(v:V),Inv k v->K<n+k->∃o,iter step n v=some o/\Post o
 | 0,k,v,hi,hn=>absurd (hK k v hi) (by omega)
 |n+1,k,v,hi,hn=>by
  rcases h k v hi with ⟨v',h1,h2⟩ |⟨o,h1,h2⟩
  .rw[kM h1];exact fQ Inv Post K hK h n (k+1) v' h2 (by omega)
  .exact⟨o,fJ h1,h2⟩
theorem ad7{n N to:Nat}{a0:ql}(hg:ws a0.uses N)(hd:a0.defs.length=N)(hn:4000002<=n)(ht:to<N):∃d F,jY n a0 to=some d/\BI a0.uses N to F.length d F:=by
 have hN:=hg.2.1;have hr:sj (sub ([(-1)]:U Int) 0 1) (N:Int)=some (List.replicate N (-1)):=by
  show(ck (decide (0<=(N:Int))&&decide ((N:Int)<=1000000000000)) (some (List.replicate (N:Int).toNat (-1))))=_;rw[show decide (0<=(N:Int))=true by simp,show decide ((N:Int)<=1000000000000)=true by simp;omega];rfl
 have hlr:(List.replicate N (-1:Int)).length=N:=List.length_replicate;have hb0:BI a0.uses N to 0 ((List.replicate N (-1:Int)).set to 0) [to]:=by
  have hto:((List.replicate N (-1:Int)).set to 0).getD to 0=0:=by simp[List.getD,ht]
  refine⟨by simp,by simp,λx hx=>by simp at hx;omega,λi hi=>?_,λj x hx=>?_,λj x hx hj=>?_,⟨rfl,hto⟩,by simp,λp y hp=>absurd hp (Nat.not_lt_zero _)⟩
  .by_cases e:to=i
   .subst e;rw[hto];simp
   .simp only[List.getD,List.getElem?_set_ne e];simp[hi,Ne.symm e]
  .cases j with
   |zero=>simp at hx;subst hx;rw[hto];simp
   |succ j=>simp at hx
  .cases j with
   |zero=>omega
   |succ j=>simp at hx
 obtain⟨d,h1,F,h2⟩:=fQ (step:=eF n a0 (List.replicate N (-1))) (λ h v=>BO a0.uses N to h v) (λ d=>∃F,BI a0.uses N to F.length d F) N (λ h v ⟨_,_,_,_,_,hb⟩=>Nat.le_trans hb.hh hb.len) (λ h v hv=>ao9 (n:=n) (r1:=List.replicate N (-1)) hg hlr (by omega) v hv) n 0
  (((0:Nat):Int),(List.replicate N (-1:Int)).set to 0,[(to:Int)]) ⟨0,[to],rfl,Nat.zero_le _,rfl,hb0⟩ (by omega)
 refine⟨d,F,?_,h2⟩;have hdl:d.length=N:=h2.dl;have h1':iter (eF n a0 (List.replicate N (-1))) n ((0:Int),(List.replicate N (-1:Int)).set to 0,[(to:Int)])=some d:=h1;simp only[jY,hd,hr,af,hlr,bE ht,bJ (show to<(List.replicate N (-1:Int)).length by omega),aj,show(((0:Nat):Int)+(to:Int)).toNat=to by omega,h1,h1'];simp[be,sub,hdl];exact take_of_length_le (Nat.le_of_eq hdl)
def Nr(d:U Int)(l:U Int)(w:Int):Prop:=
 (w= -1/\∀k∈l,d.getD k.toNat 0<0)\/(w∈l/\0<=d.getD w.toNat 0/\∀k∈l,0<=d.getD k.toNat 0->d.getD w.toNat 0<=d.getD k.toNat 0)
theorem Nr.snoc{d l:U Int}{w k:Int}(h:Nr d l w)(hk:0<=k)(hl:∀x∈l,0<=x):Nr d (l++[k]) (if 0<=d.getD k.toNat 0/\(w<0\/d.getD k.toNat 0<d.getD w.toNat 0)then k else w):=by
 split
 .rename_i h1;refine .inr ⟨by simp,h1.1,λz hz h0=>?_⟩;rw[bg]at hz;rcases hz with hz |hz
  .rcases h with ⟨rfl,h⟩ |⟨hw,hw0,h⟩
   .have:=h z hz;omega
   .have h2:=h z hz h0;have:=hl w hw;rcases h1.2 with h3 |h3<;>omega
  .simp at hz;subst hz;exact Int.le_refl _
 .rename_i h1;rcases h with ⟨rfl,h⟩ |⟨hw,hw0,h⟩
  .refine .inl ⟨rfl,λz hz=>?_⟩;rw[bg]at hz;rcases hz with hz |hz
   .exact h z hz
   .simp at hz;subst hz;exact Int.not_le.1 λh2=>h1 ⟨h2,.inl (by omega)⟩
  .refine .inr ⟨List.mem_append_left _ hw,hw0,λz hz h0=>?_⟩;rw[bg]at hz;rcases hz with hz |hz
   .exact h z hz h0
   .simp at hz;subst hz;exact Int.not_lt.1 λh2=>h1 ⟨h0,.inr h2⟩
theorem apa{n N:Nat}{d l:U Int}(hd:d.length=N)(hl:l.length<=4000000)(hr:∀k∈l,0<=k/\k<(N:Int))(hn:4000001<=n):∃w,iter (iU d l) n ((-1:Int),(0:Int))=some w/\Nr d l w:=by
 refine fQ (λ i (v:Int×Int)=>i<=l.length/\v.2=(i:Int)/\Nr d (l.take i) v.1) (λ w=>Nr d l w) l.length (λ k v h=>h.1) ?_ n 0 _ ⟨Nat.zero_le _,rfl,.inl ⟨rfl,by simp⟩⟩ (by omega);rintro i ⟨v3,v4⟩ ⟨hi,rfl,hN⟩;by_cases hlt:i<l.length
 .left;have hk:=hr l[i] (getElem_mem hlt);obtain⟨k,hk2⟩:=Int.eq_ofNat_of_zero_le hk.1;have hkN:k<d.length:=by omega
  have HP:d[k]=d.getD k 0:=by simp[List.getD,hkN]
  have htk:l.take (i+1)=l.take i++[l[i]]:=by rw[List.take_add_one,bX hlt];rfl
  have hlk:∀x∈l.take i,0<=x:=λx hx=>(hr x (List.mem_of_mem_take hx)).1;have hsn:=hN.snoc hk.1 hlk;refine⟨(if 0<=d.getD (l[i]).toNat 0/\(v3<0\/d.getD (l[i]).toNat 0<d.getD v3.toNat 0)then l[i]else v3,((i+1:Nat):Int)),?_,hlt,rfl,by rw[htk];exact hsn⟩;simp only[iU,show decide ((i:Int)<(l.length:Int))=true from by simp;omega,aj,bf hlt,af,hk2,bE hkN,bJ hkN,HP,Int.toNat_natCast,aP i];by_cases h0:0<=d.getD k 0
  .by_cases h1:v3<0
   .simp only[h0,h1,ge_iff_le,decide_true,aj,af,true_and,true_or,if_true]
   .have hv:v3∈l.take i:=by
     rcases hN with ⟨rfl,_⟩ |⟨h,_⟩
     .omega
     .exact h
    have Bm:=hr v3 (List.mem_of_mem_take hv);obtain⟨z,hz⟩:=Int.eq_ofNat_of_zero_le Bm.1;subst hz;have Fk:z<d.length:=(by omega);have hgz:d[z]=d.getD z 0:=(by simp[List.getD,Fk]);simp only[h0,ge_iff_le,decide_true,aj,h1,decide_false,ak,bE Fk,bJ Fk,af,hgz,Int.toNat_natCast,true_and,false_or];by_cases h2:d.getD k 0<d.getD z 0
    .simp only[h2,decide_true,aj,if_true,af]
    .simp only[h2,decide_false,ak,if_false,af]
  .simp only[h0,ge_iff_le,decide_false,ak,af,false_and,if_false]
 .right;refine⟨v3,?_,?_⟩
  .simp only[iU,show decide ((i:Int)<(l.length:Int))=false from by simp;omega,ak]
  .rw[take_of_length_le (by omega)]at hN;exact hN
theorem BI.step{us:U (List Int)}{N to h:Nat}{d:U Int}{F:U Nat}(b:BI us N to h d F){x:Nat}(hx:x<N)(hne:x≠to)(h0:0<=d.getD x 0):∃y:Nat,(y:Int)∈us.getD x []/\d.getD y 0=d.getD x 0 -1/\0<=d.getD y 0:=by
 obtain⟨j,hj,hjx⟩:=mem_iff_getElem.1 ((b.mem x hx).1 h0);have hj':F[j]? =some x:=by rw[bX hj,hjx]
 have hj0:0<j:=by
  cases j with
  |zero=>rw[b.hd.1]at hj';cases hj';exact absurd rfl hne
  |succ j=>exact Nat.succ_pos _
 have⟨p,y,_,h2,h3,h4⟩:=b.pre j x hj' hj0;have hyF:=cO h2;exact⟨y,h3,h4,(b.mem y (b.rg y hyF)).2 hyF⟩
theorem alr{n N fr:Nat}{a1:U fG}{us:U (List Int)}(hg:ws us N)(hd:a1.length=N)(hn:4000003<=n)(hf:fr<N):∃d F c,BI us N fr F.length d F/\j3 n fr a1 us=some (a1,us,c)/\c.length<=N+1/\(c=[]->∀k∈us.getD fr [],d.getD k.toNat 0<0):=by
 obtain⟨d,F,hdi,hb⟩:=ad7 (n:=n) (a0:=ql.mk a1 us) hg hd (by omega) hf;have hN:=hg.2.1;have Fm:=hg.1;have hmx:maxLen=9223372036854775807:=rfl;have hloop:∃o,iter (lq n fr a1 us d) n ((fr:Int),([]:U ByteArray))=some o/\∃c,o= .inr (a1,us,c)/\c.length<=N+1/\(c=[]->∀k∈us.getD fr [],d.getD k.toNat 0<0):=by
  refine fQ (λ k (v:Int×List ByteArray)=>∃at_:Nat,v.1=(at_:Int)/\at_<N/\v.2.length=k/\k<=N/\((k=0/\at_=fr)\/(0<k/\at_≠fr/\0<=d.getD at_ 0/\d.getD at_ 0+k<=N))) _ N (λ k v ⟨_,_,_,_,h,_⟩=>h) ?_ n 0 _ ⟨fr,rfl,hf,rfl,Nat.zero_le _,.inl ⟨rfl,rfl⟩⟩ (by omega);rintro k ⟨v1,v2⟩ ⟨x,rfl,hx,hv2,hkN,hst⟩;simp only at hv2;have hxa:x<a1.length:=by omega
  have hxu:x<us.length:=by omega
  have hl:=hg.2.2 us[x] (getElem_mem hxu);obtain⟨w,hw,hnr⟩:=apa (n:=n) (d:=d) (l:=us[x]) hb.dl hl.1 hl.2 (by omega);have hgu:us.getD x []=us[x]:=by simp[List.getD,hxu]
  have hap:bP v2.length v2.length (sub [a1[x].name] 0 1).length 1 16=true:=by simp[bP,sub];omega
  simp only[lq,bf hxa,bf hxu,af,hap,aj,dY,hw];have hsl:(v2++sub [a1[x].name] 0 1).length=k+1:=by simp[sub,hv2]
  have hne:((v2++sub [a1[x].name] 0 1).length==0)=false:=by rw[hsl];simp
  rcases hnr with ⟨rfl,hno⟩ |⟨Bi,hw0,hmin⟩
  .right;refine⟨.inr (a1,us,[]),by simp[be],[],rfl,by simp,λ_=>?_⟩;rcases hst with ⟨_,rfl⟩ |⟨_,SJ,hx0,_⟩
   .rw[hgu];exact hno
   .have⟨y,hy,_,hy0⟩:=hb.step hx SJ hx0;have hy':(y:Int)∈us[x]:=(by rw[<- hgu];exact hy);have:=hno _ hy';simp only[Int.toNat_natCast]at this;omega
  .have hwr:=hl.2 w Bi;obtain⟨z,rfl⟩:=Int.eq_ofNat_of_zero_le hwr.1;simp only[Int.toNat_natCast]at hw0 hmin;by_cases hzf:z=fr
   .right;subst hzf;refine⟨.inr (a1,us,v2++sub [a1[x].name] 0 1),?_,_,rfl,by omega,λh=>by rw[h]at hsl;simp at hsl⟩;simp only[show decide ((z:Int)<0)=false from by simp,ak,beq_self_eq_true,aj,hne,Bool.not_false,Bool.true_and,aD,Option.map_some]
   .left;have Fk:z<N:=(by omega);have hb1:d.getD z 0+((k+1:Nat):Int)<=N:=by
     rcases hst with ⟨hk0,rfl⟩ |⟨_,SJ,hx0,hle⟩
     .have hzF:=(hb.mem z Fk).1 hw0;obtain⟨j,hj,hjz⟩:=mem_iff_getElem.1 hzF;have h3:=hb.ub j z (by rw[bX hj,hjz]);have:=hb.len;omega
     .have⟨y,hy,hyd,hy0⟩:=hb.step hx SJ hx0;have:=hmin y (by rw[<- hgu];exact hy) (by simpa using hy0);simp only[Int.toNat_natCast]at this;omega
    refine⟨((z:Int),v2++sub [a1[x].name] 0 1),?_,z,rfl,Fk,hsl,by omega,.inr ⟨Nat.succ_pos _,hzf,hw0,hb1⟩⟩;simp only[show decide ((z:Int)<0)=false from by simp,ak,show((z:Int)==(fr:Int))=false from by simp;omega,aD,aj]
 obtain⟨o,h1,c,rfl,h2⟩:=hloop;refine⟨d,F,c,hb,?_,h2⟩;simp only[j3,hdi,af,h1];simp[be]
theorem ad8(a b:ByteArray):∃r,oF a b=some r:=by
 simp only[oF,cmp_isNaN_string,af];cases (!a.toList==a.toList)<;>cases (!b.toList==b.toList)<;>cases yw a b<;>cases (a.toList==b.toList)<;>exact⟨_,rfl⟩
theorem ad9{a b:U ByteArray}(ha:a.length<=5000000)(hn:5000001<=n):∃r,mG n a b=some r:=by
 obtain⟨o,h,_⟩:=fQ (step:=mF a b) (λ i (v:Int)=>v=(i:Int)/\i<=a.length) (λ _=>True) a.length (λ k v h=>h.2) (by
  rintro i v ⟨rfl,hi⟩;by_cases hlt:i<a.length
  .simp only[mF,show decide ((i:Int)<(a.length:Int))=true from by simp;omega,aj,bf hlt,af];by_cases hb:i<b.length
   .have⟨r,hr⟩:=ad8 a[i] b[i];simp only[show decide ((i:Int)>=(b.length:Int))=false from by simp;omega,ak,bf hb,af,hr];cases hr0:(r !=(0:Int))with
    |true=>exact .inr ⟨_,rfl,trivial⟩
    |false=>exact .inl ⟨_,rfl,by rw[bA (by omega)],by omega⟩
   .simp only[show decide ((i:Int)>=(b.length:Int))=true from by simp;omega,aj];exact .inr ⟨_,rfl,trivial⟩
  .simp only[mF,show decide ((i:Int)<(a.length:Int))=false from by simp;omega,ak];exact .inr ⟨_,rfl,trivial⟩) n 0 0 ⟨rfl,Nat.zero_le _⟩ (by omega)
 simp only[mG,h];cases o with
 |inl u=>cases u;simp only[dU];cases decide ((a.length:Int)<(b.length:Int))<;>exact⟨_,rfl⟩
 |inr r=>exact⟨r,by simp⟩
def te(us:U (List Int))(N j:Nat):Prop:=∃d F,BI us N j F.length d F/\∀k∈us.getD j [],d.getD k.toNat 0<0
theorem af6{n N:Nat}{a0:U fG}{us:U (List Int)}(hg:ws us N)(hd:a0.length=N)(hn:5000003<=n):∃c,ji n a0 us=some (a0,us,c)/\(c=[]->∀j,j<N->te us N j)/\c.length<=N+1:=by
 have hN:=hg.2.1
 obtain⟨o,h1,c,rfl,h2⟩:=fQ (step:=iw n a0) (λ i (v:Int×List fG×List (List Int)×List ByteArray)=>∃c,v=((i:Int),a0,us,c)/\i<=N/\c.length<=N+1/\(c=[]->∀j,j<i->te us N j))
  (λ o=>∃c,o=(a0,us,c)/\(c=[]->∀j,j<N->te us N j)/\c.length<=N+1) N (λ k v ⟨_,_,h,_⟩=>h) (by
  rintro i v ⟨c,rfl,hi,hcl,hc⟩;by_cases hlt:i<N
  .left;obtain⟨d,F,c2,hb,hci,Tl,hc2⟩:=alr (n:=n) (a1:=a0) hg hd (by omega) hlt;simp only[iw,show decide ((i:Int)<(a0.length:Int))=true from by simp;omega,aj,hci,af,aP i,bK,aD];have hfin:∀c':U ByteArray,c'.length<=N+1->(c'=[]->c=[]/\c2=[])->∃c'',(((i+1:Nat):Int),a0,us,c')=(((i+1:Nat):Int),a0,us,c'')/\i+1<=N/\c''.length<=N+1/\(c''=[]->∀j,j<i+1->te us N j):=λc' hl' he=>
    ⟨c',rfl,hlt,hl',λe j hj=>by
     have⟨e1,e2⟩:=he e;by_cases h:j=i
     .subst h;exact⟨d,F,hb,hc2 e2⟩
     .exact hc e1 j (by omega)⟩
   obtain⟨r,hr⟩:=ad9 (n:=n) (a:=c2) (b:=c) (by omega) (by omega);cases h0:(c2.length==0)with
   |true=>
    have e2:c2=[]:=List.eq_nil_of_length_eq_zero (by simpa using h0);exact⟨_,by simp only[aj,af],hfin c hcl λe=>⟨e,e2⟩⟩
   |false=>
    have hne:c2≠[]:=λe=>(by rw[e]at h0;simp at h0);simp only[ak,af];have key:∃b,(bif c.length==0 then some true else bif decide ((c2.length:Int)<(c.length:Int))then some true else bif(c2.length:Int)==(c.length:Int)then(mG n c2 c).bind λr2=>some (decide (r2<0))else some false)=some b/\(c.length=0->b=true):=by
     cases h3:(c.length==0)with
     |true=>exact⟨true,rfl,λ_=>rfl⟩
     |false=>
      have hcn:c.length≠0:=(by simpa using h3);simp only[ak,hr,af];cases decide ((c2.length:Int)<(c.length:Int))<;>cases ((c2.length:Int)==(c.length:Int))<;>exact⟨_,rfl,λe=>absurd e hcn⟩
    obtain⟨b,hb1,hb2⟩:=key;rw[hb1];cases b with
    |true=>exact⟨_,by simp only[aj,af],hfin c2 Tl λe=>absurd e hne⟩
    |false=>exact⟨_,by simp only[ak,af],hfin c hcl λe=>by rw[e]at hb2;exact absurd (hb2 rfl) (by simp)⟩
  .right;refine⟨(a0,us,c),?_,c,rfl,λe j hj=>hc e j (by omega),hcl⟩;simp only[iw,show decide ((i:Int)<(a0.length:Int))=false from by simp;omega,ak,aD,aj]) n 0 ((0:Int),a0,us,[]) ⟨[],rfl,Nat.zero_le _,by simp,λ_ j hj=>absurd hj (Nat.not_lt_zero _)⟩ (by omega)
 exact⟨c,by simp[ji,h1,be],h2⟩
theorem BI.back{us:U (List Int)}{N to:Nat}{d:U Int}{F:U Nat}(b:BI us N to F.length d F){i y:Nat}(hi:i<N)(hy:y<N)(h:(y:Int)∈us.getD i [])(h0:0<=d.getD y 0):0<=d.getD i 0:=by
 obtain⟨j,hj,hjy⟩:=mem_iff_getElem.1 ((b.mem y hy).1 h0);exact b.cl j y hj (by rw[bX hj,hjy]) i hi h
theorem apb{us:U (List Int)}{N:Nat}(hg:ws us N)(hf:∀j,j<N->te us N j)(done:Nat->Prop){i0:Nat}(h0:i0<N)(hd0:¬done i0):∃i,i<N/\¬done i/\∀k∈us.getD i [],done k.toNat:=by
 refine vW λhno=>?_;have hstep:∀i:{i:Nat // i<N/\¬done i},∃k:{k:Nat // k<N/\¬done k},(k.1:Int)∈us.getD i.1 []:=by
  rintro⟨i,hi,hnd⟩;refine vW λh=>hno ⟨i,hi,hnd,λk hk=>vW λhkd=>h ?_⟩;have hl:us.getD i []∈us:=by
   have:i<us.length:=(by rw[hg.1];exact hi);simp[List.getD,this]
  have hr:=(hg.2.2 _ hl).2 k hk;exact⟨⟨k.toNat,by omega,hkd⟩,by show(k.toNat:Int)∈_;rw[Int.toNat_of_nonneg hr.1];exact hk⟩
 obtain⟨f,hfs⟩:=Classical.axiomOfChoice hstep
 let g:Nat->{i:Nat // i<N/\¬done i}:=λj=>Nat.rec ⟨i0,h0,hd0⟩ (λ _ x=>f x) j
 have hgs:∀j,((g (j+1)).1:Int)∈us.getD (g j).1 []:=λj=>hfs (g j);have hnd:¬((List.range (N+1)).map λj=>(g j).1).Nodup:=λh=>by
  have:=JH N _ h λy hy=>by
   obtain⟨j,_,rfl⟩:=mem_map.1 hy;exact(g j).2.1
  rw[length_map,List.length_range]at this;omega
 obtain⟨a,b,hab,he⟩:∃a b,a<b/\(g a).1=(g b).1:=by
  refine vW λh=>hnd ?_;rw[List.nodup_iff_pairwise_ne,List.pairwise_map];exact List.pairwise_lt_range.imp λ{x y} hxy e=>h ⟨x,y,hxy,e⟩
 obtain⟨d,F,hb,hneg⟩:=hf _ (g a).2.1;have hall:∀c,a<b -c->c<b -a->0<=d.getD (g (b -c)).1 0:=by
  intro c
  induction c with
  |zero=>intro _ _;rw[Nat.sub_zero,<- he,hb.hd.2];exact Int.le_refl _
  |succ c ih=>
   intro h1 h2;have:=ih (by omega) (by omega);have e:b -c=b -(c+1)+1:=(by omega);rw[e]at this;exact hb.back (g (b -(c+1))).2.1 (g (b -(c+1)+1)).2.1 (hgs (b -(c+1))) this
 have h1:=hall (b -a -1) (by omega) (by omega);have e:b -(b -a -1)=a+1:=by omega
 rw[e]at h1;have h2:=hneg _ (hgs a);simp only[Int.toNat_natCast]at h2;omega
theorem af7{n N:Nat}{l:U Int}{done:U Bool}(hd:done.length=N)(hl:l.length<=4000000)(hr:∀k∈l,0<=k/\k<(N:Int))(hn:4000001<=n):
 ∃r,iK n l done=some (r,done)/\(r=false↔∀k∈l,done.getD k.toNat false=true):=by
 obtain⟨o,h1,h2⟩:=fQ (step:=jZ l) (λ i (v:Int×List Bool)=>v=((i:Int),done)/\i<=l.length/\∀k∈l.take i,done.getD k.toNat false=true)
  (λ o=>(o= .inl done/\∀k∈l,done.getD k.toNat false=true)\/∃i:Nat,o= .inr ((i:Int),done)/\∃k∈l,done.getD k.toNat false=false) l.length (λ k v h=>h.2.1) (by
  rintro i v ⟨rfl,hi,hall⟩;by_cases hlt:i<l.length
  .have hk:=hr l[i] (getElem_mem hlt);obtain⟨k,hk2⟩:=Int.eq_ofNat_of_zero_le hk.1;have hkN:k<done.length:=(by omega);have HP:done[k]=done.getD k false:=(by simp[List.getD,hkN]);have htk:l.take (i+1)=l.take i++[l[i]]:=(by rw[List.take_add_one,bX hlt];rfl);simp only[jZ,show decide ((i:Int)<(l.length:Int))=true from by simp;omega,aj,bf hlt,af,aD,hk2,mX,bE hkN,bJ hkN,HP];cases hdk:done.getD k false with
   |true=>
    refine .inl ⟨_,by simp only[Bool.not_true,ak];rfl,by rw[bA (by omega)],hlt,λz hz=>?_⟩;rw[htk,bg]at hz;rcases hz with hz |hz
    .exact hall z hz
    .simp only[aY]at hz;rw[hz,hk2];simpa using hdk
   |false=>exact .inr ⟨_,by simp only[Bool.not_false,aj,Option.map_some],.inr ⟨i,rfl,l[i],getElem_mem hlt,by rw[hk2];simpa using hdk⟩⟩
  .refine .inr ⟨.inl done,?_,.inl ⟨rfl,by rw[take_of_length_le (by omega)]at hall;exact hall⟩⟩;simp only[jZ,show decide ((i:Int)<(l.length:Int))=false from by simp;omega,ak,aD,aj]) n 0 ((0:Int),done) ⟨rfl,Nat.zero_le _,by simp⟩ (by omega)
 rcases h2 with ⟨rfl,h2⟩ |⟨i,rfl,k,hk,hkd⟩
 .exact⟨false,by simp[iK,nE,h1],λ_=>h2,λ_=>rfl⟩
 .refine⟨true,by simp[iK,nE,h1],λh=>(by cases h),λh=>?_⟩;rw[h k hk]at hkd;cases hkd
def L3(us:U (List Int))(N:Nat)(done:U Bool)(i:Nat)(w:Int):Prop:=
 (w= -1/\∀j,j<i->¬(done.getD j false=false/\∀k∈us.getD j [],done.getD k.toNat false=true))\/∃j:Nat,w=(j:Int)/\j<i/\done.getD j false=false
theorem anB{n N:Nat}{a0:ql}{done:U Bool}(hg:ws a0.uses N)(hd:a0.defs.length=N)(hl:done.length=N)(hn:4000002<=n):∃w,iter (iX n a0) n ((-1:Int),(0:Int),done)=some (w,done)/\L3 a0.uses N done N w:=by
 have hN:=hg.2.1;have Fm:=hg.1;obtain⟨o,h1,w,rfl,h2⟩:=fQ (step:=iX n a0) (λ i (v:Int×Int×List Bool)=>∃w,v=(w,(i:Int),done)/\i<=N/\L3 a0.uses N done i w) (λ o=>∃w,o=(w,done)/\L3 a0.uses N done N w) N (λ k v ⟨_,_,h,_⟩=>h) (by
  rintro i v ⟨w,rfl,hi,hw⟩;by_cases hlt:i<N
  .left;have hiu:i<a0.uses.length:=(by omega);have hid:i<a0.defs.length:=(by omega);have hib:i<done.length:=(by omega);have hl2:=hg.2.2 a0.uses[i] (getElem_mem hiu);obtain⟨r,hr1,hr2⟩:=af7 (n:=n) hl hl2.1 hl2.2 (by omega);have hgi:a0.uses.getD i []=a0.uses[i]:=(by simp[List.getD,hiu]);have hdi:done[i]=done.getD i false:=(by simp[List.getD,hib]);simp only[iX,show decide ((i:Int)<(a0.uses.length:Int))=true from by simp;omega,aj,bf hiu,af,aD,hr1,bE hib,bJ hib,hdi,aP i];have keep:(done.getD i false=true\/r=true)->L3 a0.uses N done (i+1) w:=by
    intro hno;rcases hw with ⟨rfl,hw⟩ |⟨j,rfl,hj,hw⟩
    .refine .inl ⟨rfl,λj hj h=>?_⟩;by_cases e:j=i
     .subst e;rw[hgi]at h;rcases hno with h3 |h3
      .rw[h3]at h;exact absurd h.1 (by simp)
      .have:=hr2.2 h.2;rw[h3]at this;cases this
     .exact hw j (by omega) h
    .exact .inr ⟨j,rfl,by omega,hw⟩
   cases hdn:done.getD i false with
   |true=>exact⟨_,by simp only[Bool.not_true,ak,af],w,rfl,hlt,keep (.inl hdn)⟩
   |false=>
    cases r with
    |true=>exact⟨_,by simp only[Bool.not_false,Bool.not_true,aj,ak,af],w,rfl,hlt,keep (.inr rfl)⟩
    |false=>
     have ao:L3 a0.uses N done (i+1) i:= .inr ⟨i,rfl,by omega,hdn⟩;rcases hw with ⟨rfl,hw⟩ |⟨j,rfl,hj,hw⟩
     .exact⟨_,by simp only[Bool.not_false,aj,show decide ((-1:Int)<0)=true from rfl,af],_,rfl,hlt,ao⟩
     .have hjd:j<a0.defs.length:=(by omega);simp only[Bool.not_false,aj,show decide ((j:Int)<0)=false from by simp,ak,bf hid,bf hjd,af];cases yw a0.defs[i].name a0.defs[j].name with
      |true=>exact⟨_,rfl,_,rfl,hlt,ao⟩
      |false=>exact⟨_,rfl,_,rfl,hlt,.inr ⟨j,rfl,by omega,hw⟩⟩
  .right;have hiN:i=N:=(by omega);refine⟨(w,done),?_,w,rfl,hiN ▸ hw⟩;simp only[iX,show decide ((i:Int)<(a0.uses.length:Int))=false from by simp;omega,ak,aD,aj]) n 0 ((-1:Int),(0:Int),done) ⟨_,rfl,Nat.zero_le _,.inl ⟨rfl,λj hj=>absurd hj (Nat.not_lt_zero _)⟩⟩ (by omega)
 exact⟨w,h1,h2⟩
theorem anC{n N:Nat}{a0:ql}(hg:ws a0.uses N)(hd:a0.defs.length=N)(hf:∀j,j<N->te a0.uses N j)(hn:4000002<=n):∃l,oG n a0=some l/\l.length=N/\∀k∈l,0<=k/\k<(N:Int):=by
 have hN:=hg.2.1;have hmx:maxLen=9223372036854775807:=rfl
 obtain⟨o,h1,h2⟩:=fQ (step:=kW n a0) (λ c (v:Int×List Int×List Bool)=>∃ab done,v=((c:Int),ab,done)/\c<=N/\ab.length=c/\(∀ k∈ab,0<=k/\k<(N:Int))/\done.length=N/\done.count false=N -c)
  (λ o=>o.length=N/\∀k∈o,0<=k/\k<(N:Int)) N (λ k v ⟨_,_,_,h,_⟩=>h) (by
  rintro c v ⟨ab,done,rfl,hc,hol,hor,hdl,hcf⟩;by_cases hlt:c<N
  .left;have⟨w,hw1,hw2⟩:=anB (n:=n) hg hd hdl hn;have hopen:∃i0,i0<N/\done.getD i0 false=false:=by
    have hm:false∈done:=List.count_pos_iff.1 (by omega);obtain⟨i0,h0,e⟩:=mem_iff_getElem.1 hm;exact⟨i0,by omega,by simp[List.getD,h0,e]⟩
   obtain⟨i0,h0,h0d⟩:=hopen;obtain⟨i,hi,hid,hia⟩:=apb hg hf (λ j=>done.getD j false=true) h0 (by rw[h0d];simp);rcases hw2 with ⟨rfl,hw2⟩ |⟨j,rfl,hj,hjd⟩
   .exact absurd ⟨Bool.eq_false_iff.2 hid,hia⟩ (hw2 i hi)
   .have hjl:j<done.length:=(by omega);have hap:bP ab.length ab.length (sub [(j:Int)] 0 1).length 1 8=true:=(by simp[bP,sub];omega);have hset:(done.set j true).length=done.length:=(by simp);refine⟨(((c+1:Nat):Int),ab++[(j:Int)],done.set j true),?_,_,_,rfl,hlt,by simp[hol],?_,by simp[hdl],?_⟩
    .simp only[kW,show decide ((c:Int)<(a0.defs.length:Int))=true from by simp;omega,aj,aD,hw1,af,bE hjl,bJ hjl,hap,dY,aP c,show(((0:Nat):Int)+(j:Int)).toNat=j by omega,Rq hset.symm];simp[sub]
    .intro k hk;rw[bg]at hk;rcases hk with hk |hk
     .exact hor k hk
     .simp at hk;subst hk;omega
    .have hjf:done[j]=false:=(by simpa[List.getD,hjl]using hjd);rw[List.count_set hjl,hcf,hjf];simp;omega
  .right;have:c=N:=(by omega);refine⟨ab,?_,by omega,hor⟩;simp only[kW,show decide ((c:Int)<(a0.defs.length:Int))=false from by simp;omega,ak,aD,aj]) n 0 ((0:Int),[],List.replicate N false) ⟨[],_,rfl,Nat.zero_le _,rfl,by simp,by simp,by simp⟩ (by omega)
 refine⟨o,?_,h2⟩;have hmk:xw (N:Int) 1=true:=by simp[xw];omega
 simp only[oG,hd,Int.le_refl,decide_true,Bool.true_and,show decide ((0:Int)<=(N:Int))=true from by simp,hmk,aj,Int.toNat_natCast,h1,af,bK,aD];simp[be]
def nt(ab:U aN)(s:aN):U aN:=
 match ab.getLast? with
 |some q=>bif decide (s.from_<=q.to)then ab.dropLast++[⟨q.from_,max q.to s.to⟩]else ab++[s]
 |none=>[s]
theorem YQ(ab:U aN)(s:aN):(nt ab s).length<=ab.length+1:=by
 unfold nt;cases ab.getLast? with
 |none=>simp
 |some q=>simp only;cases decide (s.from_<=q.to)<;>simp<;>omega
theorem aiA(o:U aN)(q s:aN):nt (o++[q]) s=bif decide (s.from_<=q.to)then o++[⟨q.from_,max q.to s.to⟩]else o++[q]++[s]:=by simp[nt]
abbrev E1(s:aN):Prop:=s.from_<s.to
def gO(l:U aN)(y:Int):Bool:=l.any λs=>decide (s.from_<=y)&&decide (y<s.to)
def Can(l:U aN):Prop:=l.Pairwise (λ a b=>a.to<b.from_)/\∀s∈l,E1 s
theorem Pv(l:U aN)(y:Int):gO l y=true↔∃s∈l,s.from_<=y/\y<s.to:=by simp[gO]
theorem FP(l m:U aN)(y:Int):gO (l++m) y=(gO l y || gO m y):=by simp[gO]
theorem KY(y:Int):gO [] y=false:=rfl
theorem pq(s:aN)(l:U aN)(y:Int):gO (s::l) y=((decide (s.from_<=y)&&decide (y<s.to)) || gO l y):=by simp[gO]
theorem af8{l m:U aN}(h:l.Perm m)(y:Int):gO l y=gO m y:=by
 rw[fB,Pv,Pv];exact⟨λ ⟨s,hs,h1⟩=>⟨s,h.mem_iff.1 hs,h1⟩,λ⟨s,hs,h1⟩=>⟨s,h.mem_iff.2 hs,h1⟩⟩
theorem ake:Can []:=⟨List.Pairwise.nil,by simp⟩
theorem anD{ab:U aN}{s:aN}(hc:Can ab)(hs:E1 s)(hb:∀o∈ab,o.from_<=s.from_):
 Can (nt ab s)/\(∀ o∈nt ab s,o.from_<=s.from_)/\∀y,gO (nt ab s) y=(gO ab y || gO [s] y):=by
 rcases List.eq_nil_or_concat ab with rfl |⟨o,q,rfl⟩
 .refine⟨⟨by simp[nt],by simp[nt];exact hs⟩,by simp[nt],λy=>by simp[nt,gO]⟩
 .rw[List.concat_eq_append]at*;obtain⟨h1,h2⟩:=hc;rw[pairwise_append]at h1;obtain⟨p1,_,p3⟩:=h1;have hq:E1 q:=h2 q (by simp);have hqs:q.from_<=s.from_:=hb q (by simp);rw[aiA];by_cases hj:s.from_<=q.to
  .simp only[hj,decide_true,aj];refine⟨⟨?_,?_⟩,?_,?_⟩
   .rw[pairwise_append];refine⟨p1,by simp,λa ha b hb'=>?_⟩;rw[aY]at hb';subst hb';exact p3 a ha q (by simp)
   .intro a ha;rcases bg.1 ha with ha |ha
    .exact h2 a (by simp[ha])
    .rw[aY]at ha;subst ha;show q.from_<max q.to s.to;have:q.from_<q.to:=hq;omega
   .intro a ha;rcases bg.1 ha with ha |ha
    .exact hb a (by simp[ha])
    .rw[aY]at ha;subst ha;exact hqs
   .intro y;rw[FP,FP,Bool.or_assoc];congr 1;simp only[pq,KY,Bool.or_false];rw[fB];simp only[aG,Bool.or_eq_true,aJ];have:q.from_<q.to:=hq;have:s.from_<s.to:=hs;omega
  .simp only[hj,decide_false,ak];refine⟨⟨?_,?_⟩,?_,?_⟩
   .rw[pairwise_append];refine⟨?_,by simp,λa ha b hb'=>?_⟩
    .rw[pairwise_append];exact⟨p1,by simp,p3⟩
    .rw[aY]at hb';subst hb';rcases bg.1 ha with ha |ha
     .have:=p3 a ha q (by simp);have:q.from_<q.to:=hq;omega
     .rw[aY]at ha;subst ha;omega
   .intro a ha;rcases bg.1 ha with ha |ha
    .exact h2 a ha
    .rw[aY]at ha;subst ha;exact hs
   .intro a ha;rcases bg.1 ha with ha |ha
    .exact hb a ha
    .rw[aY]at ha;subst ha;exact Int.le_refl _
   .intro y;rw[FP]
theorem RN:∀(l ab:U aN),Can ab->(∀ s∈l,E1 s)->l.Pairwise (λ x y=>x.from_<=y.from_)->(∀ o∈ab,∀s∈l,o.from_<=s.from_)->Can (l.foldl nt ab)/\∀y,gO (l.foldl nt ab) y=(gO ab y || gO l y)
 |[],ab,hc,_,_,_=>⟨hc,λy=>by simp[KY]⟩
 |s::l,ab,hc,hv,hp,hb=>by
  rw[pairwise_cons]at hp;obtain⟨m1,m2,m3⟩:=anD hc (hv s (by simp)) (λ o ho=>hb o ho s (by simp));obtain⟨f1,f2⟩:=RN l (nt ab s) m1 (λ t ht=>hv t (by simp[ht])) hp.2 (λ o ho t ht=>Int.le_trans (m2 o ho) (hp.1 t ht));refine⟨f1,λy=>?_⟩;rw[foldl_cons,f2,m3,Bool.or_assoc,<- FP];rfl
theorem af9{a:aN}{l:U aN}(h:Can (a::l)):Can l:=⟨(pairwise_cons.1 h.1).2,λs hs=>h.2 s (by simp[hs])⟩
theorem KZ{a:aN}{l:U aN}(h:Can (a::l)){y:Int}(hy:gO l y=true):a.to<y:=by
 obtain⟨s,hs,h1,_⟩:=(Pv _ _).1 hy;have:=(pairwise_cons.1 h.1).1 s hs;omega
theorem acN{a:aN}{l:U aN}(h:Can (a::l)){y:Int}(hy:gO (a::l) y=true):a.from_<=y:=by
 rw[pq,Bool.or_eq_true]at hy;rcases hy with hy |hy
 .simp only[aG,aJ]at hy;exact hy.1
 .have:=KZ h hy;have:a.from_<a.to:=h.2 a (by simp);omega
theorem YR:∀{l m:U aN},Can l->Can m->(∀ y,gO l y=gO m y)->l=m
 |[],[],_,_,_=>rfl
 |[],b::m,_,hm,h=>by
  have:=h b.from_;have hb:b.from_<b.to:=hm.2 b (by simp);rw[KY,pq]at this;simp[hb]at this
 |a::l,[],hl,_,h=>by
  have:=h a.from_;have ha:a.from_<a.to:=hl.2 a (by simp);rw[KY,pq]at this;simp[ha]at this
 |a::l,b::m,hl,hm,h=>by
  have ha:a.from_<a.to:=hl.2 a (by simp);have hb:b.from_<b.to:=hm.2 b (by simp);have ina:gO (a::l) a.from_=true:=by rw[pq];simp[ha]
  have Sp:gO (b::m) b.from_=true:=by rw[pq];simp[hb]
  have e1:a.from_=b.from_:=by
   have h1:=acN hm (by rw[<- h];exact ina);have h2:=acN hl (by rw[h];exact Sp);omega
  have nl:∀(c:aN)(k:U aN),Can (c::k)->gO (c::k) c.to=false:=by
   intro c k hk;cases hc:gO (c::k) c.to with
   |false=>rfl
   |true=>
    rw[pq,Bool.or_eq_true]at hc;rcases hc with hc |hc
    .simp at hc
    .have:=KZ hk hc;omega
  have e2:a.to=b.to:=by
   rcases Int.lt_trichotomy a.to b.to with hlt |he |hlt
   .have h1:=nl a l hl;rw[h,pq]at h1;simp only[Bool.or_eq_false_iff,Bool.and_eq_false_iff,dD]at h1;omega
   .exact he
   .have h1:=nl b m hm;rw[<- h,pq]at h1;simp only[Bool.or_eq_false_iff,Bool.and_eq_false_iff,dD]at h1;omega
  have e:a=b:=by cases a;cases b;simp only at e1 e2;rw[e1,e2]
  subst e;rw[YR (af9 hl) (af9 hm) λy=>?_];have hy:=h y;rw[pq,pq]at hy;cases h1:gO l y with
  |true=>
   have:=KZ hl h1;have z:(decide (a.from_<=y)&&decide (y<a.to))=false:=(by rw[Bool.and_eq_false_iff,dD,dD];omega);rw[z,h1,Bool.false_or,Bool.false_or]at hy;rw[<- hy]
  |false=>
   cases h2:gO m y with
   |false=>rfl
   |true=>
    have:=KZ hm h2;have z:(decide (a.from_<=y)&&decide (y<a.to))=false:=(by rw[Bool.and_eq_false_iff,dD,dD];omega);rw[z,h1,h2]at hy;simp at hy
def D2(l:U aN):U aN:=(kD s6 l).foldl nt []
theorem anE{l:U aN}(h:l.Pairwise λx y=>s6 y x=false):l.Pairwise λx y=>x.from_<=y.from_:=
 h.imp λ{x y} hxy=>by simp only[s6,dD]at hxy;omega
theorem acO{l:U aN}(h:∀s∈l,E1 s):Can (D2 l)/\∀y,gO (D2 l) y=gO l y:=by
 have hp:=Fx s6 l;obtain⟨h1,h2⟩:=RN (kD s6 l) [] ake (λ s hs=>h s (hp.mem_iff.1 hs)) (anE (am5 Ps l)) (by simp);exact⟨h1,λy=>by rw[D2,h2,KY,Bool.false_or,af8 hp]⟩
theorem als{l:U aN}(h:∀s∈l,E1 s):(oQ s6 l).foldl nt []=D2 l:=by
 have hp:=zJ Ps l;obtain⟨h1,h2⟩:=RN (oQ s6 l) [] ake (λ s hs=>h s (hp.mem_iff.1 hs)) (anE (Fv Ps l)) (by simp);have⟨h3,h4⟩:=acO h;exact YR h1 h3 λy=>by rw[h2,KY,Bool.false_or,af8 hp,h4]
theorem aga(l:U aN):(D2 l).length<=l.length:=by
 have:∀(ys ab:U aN),(ys.foldl nt ab).length<=ab.length+ys.length:=by
  intro ys
  induction ys with
  |nil=>intro ab;simp
  |cons y ys ih=>
   intro ab;simp only[foldl_cons,bn];have:=ih (nt ab y);have:=YQ ab y;omega
 have h:=this (kD s6 l) [];rw[dH]at h;simpa[D2]using h
abbrev ef(r:ax):Bool:=decide (0<=r.x0)&&(decide (r.x0<r.x1)&&(decide (r.x1<=1048576)&&(decide (0<=r.y0)&&(decide (r.y0<r.y1)&&decide (r.y1<=1048576)))))
theorem PP(a b:Bool):(bif a then some b else some false)=some (a&&b):=by cases a<;>rfl
theorem jK(r:ax):pV r=some (ef r):=by simp only[pV,PP]
def kr(l:U ax)(x:Int):U aN:=(l.filter λr=>decide (r.x0<=x)&&decide (x<r.x1)).map λr=>⟨r.y0,r.y1⟩
def dn(l:U ax)(x:Int):U aN:=D2 (kr l x)
theorem JI(l:U ax)(x:Int):(kr l x).length<=l.length:=by simp only[kr,length_map];exact length_filter_le _ _
theorem zV(l:U ax)(x:Int):(dn l x).length<=l.length:=
 Nat.le_trans (aga _) (JI l x)
theorem ari{r:ax}(h:ef r=true):r.y0<r.y1:=by simp only[ef,aG,aJ]at h;omega
theorem YS{l:U ax}(h:∀r∈l,ef r=true)(x:Int):∀s∈kr l x,E1 s:=by
 intro s hs;simp only[kr,mem_map,List.mem_filter]at hs;obtain⟨r,⟨hr,_⟩,rfl⟩:=hs;exact ari (h r hr)
theorem RO{l:U ax}{x:Int}(hl:l.length<1099511627776){n:Nat}(hn:l.length<n):iter (uU l x) n ((0:Int),([]:U aN))=some (kr l x):=by
 have:=fO (l:=l) (step:=uU l x) (λ i (s:List aN)=>((i:Int),s)) (λ r s=>bif decide (r.x0<=x)&&decide (x<r.x1)then s++[⟨r.y0,r.y1⟩]else s) (λ s=>s) (λ i s=>s.length<=i)
  (λ i hi s hs=>?_) (λ s hs=>by simp[uU]) n hn [] (aC _)
 .rw[show ((0:Nat):Int)=0 from rfl]at this;rw[this];congr 1;have gen:∀(ys:U ax)(s:U aN),ys.foldl (λ s r=>bif decide (r.x0<=x)&&decide (x<r.x1)then s++[⟨r.y0,r.y1⟩]else s) s=s++kr ys x:=by
   intro ys
   induction ys with
   |nil=>intro s;simp[kr]
   |cons y ys ih=>
    intro s;simp only[foldl_cons,ih];cases h:(decide (y.x0<=x)&&decide (x<y.x1))with
    |true=>simp[kr,h]
    |false=>simp[kr,h]
  simpa using gen l []
 .have hi':decide ((i:Int)<(l.length:Int))=true:=by simpa using hi
  have ap:bP s.length s.length (sub ([(aN.mk l[i].y0 l[i].y1)]:U aN) 0 1).length 1 16=true:=cu (n:=1);simp only[uU,hi',aj,bf hi,af,PP];cases h:(decide (l[i].x0<=x)&&decide (x<l[i].x1))with
  |true=>
   simp only[aj,ap,dY,aD,af];refine⟨?_,by simp;omega⟩;rw[bA (by omega)];rfl
  |false=>
   simp only[ak,aD,aj,af];exact⟨by rw[bA (by omega)],by omega⟩
theorem RP(w1 r2:U aN)(hw:w1.length=r2.length)(hl:r2.length<1099511627776)(hn:r2.length<n):iter (uV w1 r2) n ((0:Int),([]:U aN))=some (r2.foldl nt []):=by
 have:=fO (l:=r2) (step:=uV w1 r2) (λ i (s:List aN)=>((i:Int),s)) (λ r s=>nt s r) (λ s=>s) (λ i s=>s.length<=i)
  (λ i hi s hs=>?_) (λ s hs=>by simp[uV,hw]) n hn [] (aC _)
 .rw[show ((0:Nat):Int)=0 from rfl]at this;exact this
 .refine⟨?_,by have:=YQ s r2[i];omega⟩;have hi':decide ((i:Int)<(w1.length:Int))=true:=by simp;omega
  have ib:co (i:Int) w1.length=true:=bE (by omega);have ap:bP s.length s.length (sub ([r2[i]]:U aN) 0 1).length 1 16=true:=cu (n:=1);simp only[uV,hi',aj,ib,bJ hi,af];rcases List.eq_nil_or_concat s with rfl |⟨s0,q,HI⟩
  .have d0:decide (((([]:U aN).length:Nat):Int)>0)=false:=(by simp);simp only[d0,ak,af,ap,aj,dY,aD];rw[bA (by omega)];rfl
  .rw[List.concat_eq_append]at HI;subst HI;have d0:decide (((((s0++[q]).length:Nat):Int))>0)=true:=(by simp<;>omega);have A4:(s0++[q]).length=s0.length+1:=(by simp);have wp:i64.wrap ((((s0++[q]).length:Nat):Int) -1)=(s0.length:Int):=(by rw[pF (by simp) (by omega),A4];rfl);have Ss:co (s0.length:Int) (s0++[q]).length=true:=bE (by omega);have g:br (s0++[q]) (((0:Nat):Int)+(s0.length:Int))=some q:=(by rw[Bu];simp);have z:(((0:Nat):Int)+(s0.length:Int)).toNat=s0.length:=(by simp);have st:(s0++[q]).set s0.length (aN.mk q.from_ (max q.to r2[i].to))=s0++[⟨q.from_,max q.to r2[i].to⟩]:=(by simp);have m:nt (s0++[q]) r2[i]=bif decide (r2[i].from_<=q.to)then s0++[⟨q.from_,max q.to r2[i].to⟩]else s0++[q]++[r2[i]]:=(by simp[nt]);simp only[d0,aj,wp,Ss,g,af,m,z,st];cases decide (r2[i].from_<=q.to)with
   |true=>
    have e:be (s0++[q]).length (s0++[(⟨q.from_,max q.to r2[i].to⟩:aN)]).length=true:=(by simp);simp only[aj,e,af,aD];rw[bA (by omega)]
   |false=>
    simp only[ak,ap,aj,dY,aD,af];rw[bA (by omega)];rfl
theorem aeb{l:U ax}{x:Int}(hv:∀r∈l,ef r=true)(hl:l.length<1099511627776)(hn:l.length<n):KS n l x=some (dn l x):=by
 have h1:=JI l x;have h2:(oQ s6 (kr l x)).length=(kr l x).length:=uM Ps _;unfold KS;simp only[length_nil,aD,aj,RO (x:=x) (l:=l) (by omega) (n:=n) (by omega),af];rw[Lg (λ a b=>if a.from_<b.from_ then -1 else if b.from_<a.from_ then 1 else 0) (λ a b=>by show yI a b=_;unfold yI;rw[kT];rfl) (λ a b=>by
  by_cases h1:a.from_<b.from_
  .simp[h1]
  .by_cases h2:b.from_<a.from_<;>simp[h1,h2]) (by omega) (by omega)]
 simp only[af];rw[RP _ _ h2.symm (by omega) (by omega)];simp only[af,bK,aD,aj];rw[als (YS hv x)];rfl
def iy(l:U ax):U Int:=yp (l.flatMap λr=>[r.x0,r.x1])
def jo{α:Type}(f:Int->Int->α):U Int->U α
 |a::b::l=>f a b::jo f (b::l)
 |_=>[]
def bq(l:U ax):U bR:=jo (λ a b=>⟨a,b,dn l a⟩) (iy l)
theorem tZ{α:Type}(f:Int->Int->α):∀(l:U Int),(jo f l).length=l.length -1/\∀i (h:i+1<l.length) (h':i<(jo f l).length),(jo f l)[i]=f l[i] l[i+1]
 |[]=>⟨rfl,λi h=>by simp at h⟩
 |[a]=>⟨rfl,λi h=>by simp at h⟩
 |a::b::l=>by
  have⟨h1,h2⟩:=tZ f (b::l);refine⟨by simp only[jo,bn,h1];simp,λi h h'=>?_⟩;cases i with
  |zero=>rfl
  |succ i=>
   simp only[jo,List.getElem_cons_succ];exact h2 i (by simpa using h) _
theorem xP(l:U ax):(l.flatMap λr=>[r.x0,r.x1]).length=2*l.length:=by
 induction l with
 |nil=>rfl
 |cons x l ih=>simp only[List.flatMap_cons,dM,ih,bn,length_nil];omega
theorem pu(l:U Int):(gT l).length<=l.length:=by
 match l with
 |[]=>simp[gT]
 |[x]=>simp[gT]
 |x::y::l=>
  have:=pu (y::l);simp only[gT];cases x==y<;>simp at* <;>omega
theorem Mw(l:U ax):(iy l).length<=2*l.length:=by
 have h:=pu (kD (λ a b=>decide (a<b)) (l.flatMap λr=>[r.x0,r.x1]));rw[dH,xP]at h;exact h
theorem RQ{l:U ax}(hl:l.length<10995116277)(hn:l.length<n):iter (uW l) n ((0:Int),([]:U Int))=some (l.flatMap λr=>[r.x0,r.x1]):=by
 have:=fO (l:=l) (step:=uW l) (λ i (s:List Int)=>((i:Int),s)) (λ r s=>s++[r.x0,r.x1]) (λ s=>s) (λ i s=>s.length<=2*i)
  (λ i hi s hs=>?_) (λ s hs=>by simp[uW]) n hn [] (aC _)
 .rw[show ((0:Nat):Int)=0 from rfl]at this;rw[this];have gen:∀(ys:U ax)(s:U Int),ys.foldl (λ s r=>s++[r.x0,r.x1]) s=s++ys.flatMap λr=>[r.x0,r.x1]:=by
   intro ys
   induction ys with
   |nil=>intro s;simp
   |cons y ys ih=>intro s;simp[ih]
  congr 1;simpa using gen l []
 .have hi':decide ((i:Int)<(l.length:Int))=true:=by simpa using hi
  have ap:bP s.length s.length (sub ([l[i].x0,l[i].x1]:U Int) 0 2).length 2 8=true:=cu (n:=2);simp only[uW,hi',aj,bE hi,bJ hi,af,ap,dY,aD];refine⟨?_,by simp;omega⟩;rw[bA (by omega)];rfl
theorem yU{ls:U (List ax)}(hv:∀r∈ls.flatten,ef r=true)(hl:ls.flatten.length<10995116277)(hls:ls.length<1099511627776)(hn:2*ls.flatten.length<n)(hn2:ls.length<n):pG n ls=some (bq ls.flatten):=by
 unfold pG;rw[Pq (by omega) hls hn2];generalize ls.flatten=l at*;have he:=Mw l;simp only[af,length_nil,aD,aj,RQ (l:=l) (n:=n) (by omega) (by omega)];rw[nP (by rw[xP];omega) (by rw[xP];omega)];simp only[af,dH,aD,aj];rw[qa (by rw[dH,xP];omega) (by rw[dH,xP];omega)];simp only[af];have hE:gT (kD m9 (l.flatMap λr=>[r.x0,r.x1]))=iy l:=rfl;rw[hE];obtain⟨p1,p2⟩:=tZ (λ a b=>(⟨a,b,dn l a⟩:bR)) (iy l);have key:iter (uX n l ((),iy l)) n ((1:Int),([]:U bR))=some (bq l):=by
  have:=lZ (step:=uX n l ((),iy l)) (λ i=>(((i+1:Nat):Int),(bq l).take i)) (bq l).length (bq l) (λ i hi=>?_) ?_ n (by unfold bq;omega)
  .simpa using this
  .have hi2:i+1<(iy l).length:=(by unfold bq at hi;omega);have d:decide (((i+1:Nat):Int)<(((iy l).length:Nat):Int))=true:=(by simp;omega);have wp:i64.wrap (((i+1:Nat):Int) -1)=(i:Int):=(by rw[pF (by omega) (by omega)];rfl);have ap:bP ((bq l).take i).length ((bq l).take i).length (sub ([(bR.mk ((iy l)[i]'(by omega)) (iy l)[i+1] (dn l ((iy l)[i]'(by omega))))]:U bR) 0 1).length 1 40=true:=by
    refine cu (n:=1) ?_ ?_
    .rw[length_take];unfold bq;omega
    .rw[length_take];unfold bq;simp only[maxLen];omega
   have tk:(bq l).take (i+1)=(bq l).take i++[⟨(iy l)[i]'(by omega),(iy l)[i+1],dn l ((iy l)[i]'(by omega))⟩]:=by
    rw[fD hi];congr 2;exact p2 i hi2 hi
   simp only[uX,d,aj,wp,bE (show i<(iy l).length by omega),bJ (show i<(iy l).length by omega),af,bE hi2,bJ hi2,bK,aD,aeb (l:=l) (n:=n) hv (by omega) (by omega),ap,dY];rw[bA (by omega),tk];rfl
  .have d:decide ((((bq l).length+1:Nat):Int)<(((iy l).length:Nat):Int))=false:=(by unfold bq;simp;omega);simp only[uX,d,ak,List.take_length,aD,aj]
 rw[key];simp only[af,bK,aD,aj]
def FQ(x0 x1:Int)(c:U aN):U ax:=c.map λq=>⟨x0,q.from_,x1,q.to⟩
def D1(x0 x1:Int)(c:U aN):U bR->U ax
 |[]=>FQ x0 x1 c
 |s::l=>if s.column=c then D1 x0 s.x1 c l else FQ x0 x1 c++D1 s.x0 s.x1 s.column l
def oK:U bR->U ax
 |[]=>[]
 |s::l=>D1 s.x0 s.x1 s.column l
theorem acP(x0:Int)(c:U aN):∀(l:U bR)(x1:Int)(k:Nat)(hk:k<=l.length),(∀ j (hj:j<k),(l[j]'(by omega)).column=c)->(∀ h:k<l.length,l[k].column≠c)->
 D1 x0 x1 c l=FQ x0 (if h:0<k then(l[k -1]'(by omega)).x1 else x1) c++oK (l.drop k)
 |l,x1,0,_,_,h2=>by
  cases l with
  |nil=>simp[D1,oK]
  |cons s l=>
   have:=h2 (by simp);simp only[List.getElem_cons_zero]at this;simp[D1,oK,this]
 |[],x1,k+1,hk,_,_=>by simp at hk
 |s::l,x1,k+1,hk,h1,h2=>by
  have e0:=h1 0 (by omega);simp only[List.getElem_cons_zero]at e0;simp only[D1,e0,if_true];rw[acP x0 c l s.x1 k (by simpa using hk) (λ j hj=>by have:=h1 (j+1) (by omega);simpa using this) (λ h=>by have:=h2 (by simpa using h);simpa using this)];simp only[List.drop_succ_cons];congr 2;by_cases hk0:0<k
  .simp only[hk0,dite_true,Nat.zero_lt_succ,Nat.add_sub_cancel];obtain⟨m,rfl⟩:∃m,k=m+1:=⟨k -1,by omega⟩;simp
  .have:k=0:=(by omega);subst this;simp
theorem UR{l:U bR}{i k:Nat}(hi:i<l.length)(hk1:0<k)(hk:k<=l.length)(hl:l.length<10995116277)(x3:bR)(ab:U ax)(ho:ab.length<1099511627776)(hc:x3.column.length<1099511627776)(hn:x3.column.length<n):
 iter (xH l (i:Int) (k:Int) x3) n ((0:Int),ab)=some (ab++FQ l[i].x0 (l[k -1]'(by omega)).x1 x3.column):=by
 have:=fO (l:=x3.column) (step:=xH l (i:Int) (k:Int) x3) (λ j (s:List ax)=>((j:Int),s)) (λ q s=>s++[⟨l[i].x0,q.from_,(l[k -1]'(by omega)).x1,q.to⟩]) (λ s=>s) (λ j s=>s.length<=ab.length+j)
  (λ j hj s hs=>?_) (λ s hs=>by simp[xH]) n hn ab (aC _)
 .rw[show ((0:Nat):Int)=0 from rfl]at this;rw[this];have gen:∀(ys:U aN)(s:U ax),ys.foldl (λ s q=>s++[⟨l[i].x0,q.from_,(l[k -1]'(by omega)).x1,q.to⟩]) s=s++FQ l[i].x0 (l[k -1]'(by omega)).x1 ys:=by
   intro ys
   induction ys with
   |nil=>intro s;simp[FQ]
   |cons y ys ih=>intro s;simp only[foldl_cons,ih];simp[FQ]
  rw[gen]
 .have hj':decide ((j:Int)<(x3.column.length:Int))=true:=by simpa using hj
  have wp:i64.wrap ((k:Int) -1)=((k -1:Nat):Int):=pF hk1 (by omega);have ap:bP s.length s.length (sub ([(ax.mk l[i].x0 (x3.column[j]).from_ (l[k -1]'(by omega)).x1 (x3.column[j]).to)]:U ax) 0 1).length 1 32=true:=cu (n:=1);simp only[xH,hj',aj,bf hj,bf hi,wp,bf (show k -1<l.length by omega),af,ap,dY,aD];refine⟨?_,by simp;omega⟩;rw[bA (by omega)];rfl
theorem Uq{l:U bR}{b:Nat}(hb:b<=100000)(hl:l.length<=100000)(hc:∀s∈l,s.column.length<=b)(hn:b<n)(hn2:l.length<n):Jy n l=some (oK l):=by
 unfold Jy;simp only[length_nil,aD,aj];have main:∀(m i:Nat)(ab:U ax)(k:Nat),i+m=l.length->m<k->ab.length<=i*b->iter (xI n l) k ((i:Int),ab)=some (ab++oK (l.drop i)):=by
  intro m
  induction m using Nat.strongRecOn with
  |ind m ih=>
   intro i ab k him hk ho;obtain⟨k,rfl⟩:∃j,k=j+1:=⟨k -1,by omega⟩;by_cases hm:m=0
   .subst hm;have:i=l.length:=(by omega);subst this;refine fJ ?_;simp[xI,oK]
   .have hi:i<l.length:=(by omega);have di:decide ((i:Int)<(l.length:Int))=true:=(by simpa using hi);obtain⟨q,hq1,hq2,hq3,hq4⟩:∃q,i<q/\q<=l.length/\(∀ j,i<j->j<q->∀h:j<l.length,l[j].column=l[i].column)/\(∀ h:q<l.length,l[q].column≠l[i].column):=by
     rcases Mq (λ j=>if h:j<l.length then decide (l[j].column≠l[i].column)else false) (i+1) l.length with ⟨q,h1,h2,h3,h4⟩ |h
     .simp only[h2,dite_true,aJ]at h3;refine⟨q,by omega,by omega,λj hj1 hj2 hj=>?_,λ_=>h3⟩;have:=h4 j (by omega) hj2;simp only[hj,dite_true,dD,ne_eq,Decidable.not_not]at this;exact this
     .refine⟨l.length,hi,aC _,λj hj1 hj2 hj=>?_,λh=>by omega⟩;have:=h j (by omega) hj;simp only[hj,dite_true,dD,ne_eq,Decidable.not_not]at this;exact this
    have cl:∀j (hj:j<l.length),l[j].column.length<=b:=λj hj=>hc _ (getElem_mem hj);have r2:iter (uo n l (i:Int)) n (i64.wrap ((i:Int)+1))=some (q:Int):=by
     rw[bA (by omega)];have:=lZ (step:=uo n l (i:Int)) (λ j=>((i+1+j:Nat):Int)) (q -(i+1)) (q:Int) (λ j hj=>?_) ?_ n (by omega)
     .simpa using this
     .have hjl:i+1+j<l.length:=(by omega);have dj:decide (((i+1+j:Nat):Int)<(l.length:Int))=true:=(by simp;omega);have hcc:=cl (i+1+j) hjl;simp only[uo,dj,aj,bf hjl,bf hi,af];rw[Eg (by omega) (by omega),hq3 (i+1+j) (by omega) (by omega) hjl];simp only[decide_true,af,aj];rw[bA (by omega)];rfl
     .rw[show i+1+(q -(i+1))=q by omega];by_cases zd:q<l.length
      .have dj:decide ((q:Int)<(l.length:Int))=true:=(by simpa using zd);have hcc:=cl q zd;simp only[uo,dj,aj,bf zd,bf hi,af];rw[Eg (by omega) (by omega)];simp[hq4 zd]
      .have dj:decide ((q:Int)<(l.length:Int))=false:=(by simp;omega);simp only[uo,dj,ak,af]
    have ob:i*b<=100000*100000:=Nat.mul_le_mul (by omega) hb;have hci:=cl i hi;have r3:=UR (n:=n) hi (show 0<q by omega) hq2 (by omega) l[i] ab (by omega) (by omega) (by omega);have step:xI n l ((i:Int),ab)=some (.inl ((q:Int),ab++FQ l[i].x0 (l[q -1]'(by omega)).x1 l[i].column)):=(by simp only[xI,di,aj,r2,bf hi,af,aD,r3]);rw[kM step,ih (l.length -q) (by omega) q _ k (by omega) (by omega) (by
     rw[dM,FQ,length_map];have:(i+1)*b<=q*b:=Nat.mul_le_mul_right _ (by omega);rw[Nat.add_mul]at this;omega)]
    rw[aM];congr 2
    conv=>rhs;rw[List.drop_eq_getElem_cons hi]
    simp only[oK];rw[acP l[i].x0 l[i].column (l.drop (i+1)) l[i].x1 (q -(i+1)) (by rw[length_drop];omega) (λ j hj=>by
     rw[getElem_drop];exact hq3 _ (by omega) (by omega) (by omega)) (λ h=>by
     rw[length_drop]at h;rw[getElem_drop];have:=hq4 (by omega);have hqq:i+1+(q -(i+1))=q:=(by omega);simp only[hqq];exact this)]
    rw[List.drop_drop,show i+1+(q -(i+1))=q by omega];congr 2;by_cases h0:0<q -(i+1)
    .simp only[h0,dite_true,getElem_drop];congr 2;omega
    .simp only[h0,dite_false];have:q -1=i:=(by omega);congr 2
 have:=main l.length 0 [] n (by omega) (by omega) (by simp);simp only[Int.natCast_zero,bI,List.drop_zero]at this;rw[this];simp
def rL(l:U ax):U ax×Int:=
 if l.all ef then(if l.length>400 then([],6)else if (oK (bq l)).length>200 then([],6)else(oK (bq l),0))else([],1)
def cz(l:U ax):Bool:=decide ((rL l).2=0)&&decide ((rL l).1=l)
theorem agb{l:U ax}{s:bR}(h:s∈bq l):s.column.length<=l.length:=by
 obtain⟨i,hi,rfl⟩:=List.getElem_of_mem h;obtain⟨p1,p2⟩:=tZ (λ a b=>(⟨a,b,dn l a⟩:bR)) (iy l);have:(bq l)[i]=⟨(iy l)[i]'(by unfold bq at hi;omega),(iy l)[i+1]'(by unfold bq at hi;omega),dn l ((iy l)[i]'(by unfold bq at hi;omega))⟩:=p2 i (by unfold bq at hi;omega) hi;rw[this];exact zV l _
theorem vC(l:U ax):(bq l).length<=2*l.length:=by
 obtain⟨p1,_⟩:=tZ (λ a b=>(⟨a,b,dn l a⟩:bR)) (iy l);have:=Mw l;unfold bq;omega
theorem anF{l:U ax}(hl:l.length<1099511627776)(hl2:l.length<n)(hn:1000<=n):Ok n l=some (rL l):=by
 unfold Ok;have h1:=iL (l:=l) (step:=Pg l) (λ i=>(i:Int)) (λ r=>!ef r) () (λ _=>(([]:U ax),(1:Int))) (λ i hi=>?_) ?_ n (by omega)
 .rw[show ((0:Nat):Int)=0 from rfl]at h1;rw[h1];have h2:=jf (λ r=>!ef r) l;cases hf:jA (λ r=>!ef r) l with
  |some i=>
   rw[hf]at h2;have:l.all ef=false:=by
    rw[<- Bool.not_eq_true,all_eq_true];intro hall;have h3:=h2.symm;simp only[Option.isSome_some,any_eq_true]at h3;obtain⟨x,hx,hx2⟩:=h3;rw[hall x hx]at hx2;cases hx2
   simp[rL,this]
  |none=>
   rw[hf]at h2;have:l.all ef=true:=by
    rw[all_eq_true];intro x hx;cases h:ef x with
    |true=>rfl
    |false=>
     have:l.any (λ r=>!ef r)=true:=any_eq_true.2 ⟨x,hx,by rw[h];rfl⟩;rw[this]at h2;cases h2
   have hv:∀r∈l,ef r=true:=all_eq_true.1 this;by_cases H3:l.length>400
   .have d4:decide ((l.length:Int)>400)=true:=(by simp;omega);simp only[dU,d4,aj,rL,this,if_true,aT H3]
   have d4:decide ((l.length:Int)>400)=false:=(by simp;omega);have ls:=vC l;simp only[dU,d4,ak];have fl:[l].flatten=l:=(by simp);rw[show (sub ([l]:U (List ax)) 0 1)=[l]from rfl,yU (ls:=[l]) (by rw[fl];exact hv) (by rw[fl];omega) (by simp) (by rw[fl];omega) (by simp;omega),fl];simp only[length_singleton,aD,aj,af,bK];rw[Uq (b:=400) (by omega) (by omega) (λ s hs=>Nat.le_trans (agb hs) (by omega)) (by omega) (by omega)];simp only[af,bK,aD,aj,zO,rL,this,if_true,aW H3];by_cases qT:(oK (bq l)).length>200
   .have:decide (((oK (bq l)).length:Int)>200)=true:=(by simp;omega);simp only[this,aj,af,qT,if_true]
   .have:decide (((oK (bq l)).length:Int)>200)=false:=(by simp;omega);simp only[this,ak,af,qT,if_false]
 .have hi':decide ((i:Int)<(l.length:Int))=true:=by simpa using hi
  simp only[Pg,hi',aj,bf hi,af,jK];cases ef l[i]with
  |false=>rfl
  |true=>simp only[Bool.not_true,ak];rw[bA (by omega)]
 .simp[Pg]
theorem jq{l:U ax}(hl:l.length<1099511627776)(hl2:l.length<n)(hn:1000<=n):l5 n l=some (cz l):=by
 unfold l5 cz;rw[anF hl hl2 hn];simp only[af];by_cases h:(rL l).2=0
 .have e:((rL l).2==0)=true:=by simp[h]
  have lo:(rL l).1.length<=200:=by
   unfold rL;split
   .split
    .simp
    .split
     .simp
     .simp;omega
   .simp
  by_cases hlen:(rL l).1.length<n
  .simp only[e,aj,h,decide_true,Bool.true_and];rw[Ef (by omega) hlen];rfl
  .have:(rL l).1.length≠l.length:=(by omega);have hne:(rL l).1≠l:=λe=>this (by rw[e]);simp only[e,aj,h,decide_true,Bool.true_and];unfold pI;have hb:(((rL l).1.length:Int) !=(l.length:Int))=true:=(by simp;omega);rw[hb];simp[hne]
 .have e:((rL l).2==0)=false:=by simp[h]
  simp[e,h]
theorem Cs{α:Type}(c:Bool)(a b:α):(bif c then some a else some b)=some (bif c then a else b):=by cases c<;>rfl
theorem Eh(i n:Nat):Int.tmod (i:Int) (n:Int)=((i%n:Nat):Int):=by rw[Int.tmod_eq_emod_of_nonneg (by omega)];omega
theorem bZ{i n:Nat}(h:i<n):decide ((i:Int)<(n:Int))=true:=by simpa using h
theorem dX(n:Nat):decide ((n:Int)<(n:Int))=false:=by simp
theorem aec{k b:Nat}(h:k*b<=140737488355328)(h2:k<=maxLen):xw (k:Int) b=true:=by
 have e:((k:Int)).toNat=k:=by omega
 simp only[xw,aG,aJ,e];exact⟨⟨by omega,h⟩,h2⟩
def px(p:U dP)(i:Nat):dP:=p.getD i ⟨0,0⟩
def jr(p:U dP)(i:Nat):jN:=⟨(px p i).x,(px p i).y,(px p ((i+1)%p.length)).x,(px p ((i+1)%p.length)).y⟩
def gD(p:U dP):U jN:=(List.range p.length).map (jr p)
theorem Wz{p:U dP}{i:Nat}(h:i<p.length):px p i=p[i]:=by simp[px,h]
theorem eG(p:U dP):(gD p).length=p.length:=by simp[gD]
theorem zW{p:U dP}{i:Nat}(h:i<(gD p).length):(gD p)[i]=jr p i:=by simp[gD]
theorem anG{α:Type}(A B:U α)(z x:α):(A++z::B).set A.length x=A++x::B:=by rw[List.set_append_right _ _ (aC _),Nat.sub_self];rfl
theorem BP{p:U dP}(hl:p.length<=100000)(hn:p.length<n):qp n p=some (gD p):=by
 unfold qp;have mk:xw (p.length:Int) 32=true:=aec (by omega) (by show p.length<=2 ^ 63 -1;omega);have main:=lZ (step:=p9 p) (λ i=>((i:Int),(List.range i).map (jr p)++List.replicate (p.length -i) (jN.mk 0 0 0 0))) p.length (gD p) (λ i hi=>?_) ?_ n hn
 .have z:((p.length:Int)).toNat=p.length:=by omega
  simp only[List.range_zero,map_nil,bI,Nat.sub_zero]at main;have d1:decide ((p.length:Int)<=(p.length:Int))=true:=by simp
  have d2:decide ((0:Int)<=(p.length:Int))=true:=by simp
  rw[mk,d1,d2,z];simp only[Bool.and_self,aj];rw[show ((0:Nat):Int)=0 from rfl]at main;rw[main];simp only[af];have e:sub (gD p) 0 p.length=gD p:=by rw[<- eG p];exact bK _
  rw[e,eG];simp
 .have nz:((p.length:Int) !=0)=true:=by simp;intro h;rw[h]at hi;simp at hi
  have md:(i+1)%p.length<p.length:=Nat.mod_lt _ (by omega);have w:i64.wrap ((i:Int)+1)=((i+1:Nat):Int):=bA (by omega);have z:((p.length:Int)).toNat=p.length:=by omega
  have rp:List.replicate (p.length -i) (jN.mk 0 0 0 0)=jN.mk 0 0 0 0::List.replicate (p.length -(i+1)) (jN.mk 0 0 0 0):=by rw[show p.length -i=(p.length -(i+1))+1 by omega,List.replicate_succ]
  have la:((List.range i).map (jr p)).length=i:=by simp
  have g:br ((List.range i).map (jr p)++List.replicate (p.length -i) (jN.mk 0 0 0 0)) (((0:Nat):Int)+(i:Int))=some (jN.mk 0 0 0 0):=by rw[Bu,lM (by omega),la,rp,Nat.sub_self];rfl
  have z2:(((0:Nat):Int)+(i:Int)).toNat=i:=by omega
  have st:((List.range i).map (jr p)++List.replicate (p.length -i) (jN.mk 0 0 0 0)).set i (jr p i)=(List.range (i+1)).map (jr p)++List.replicate (p.length -(i+1)) (jN.mk 0 0 0 0):=by
   rw[rp];have:=anG ((List.range i).map (jr p)) (List.replicate (p.length -(i+1)) (jN.mk 0 0 0 0)) (jN.mk 0 0 0 0) (jr p i);rw[la]at this;rw[this,List.range_succ,map_append,aM];rfl
  simp only[p9,bZ hi,aj,bf hi,af,nz,w,Eh,bf md,z,bE hi,g,z2];rw[<- Wz hi,<- Wz md];rw[show jN.mk (px p i).x (px p i).y (px p ((i+1)%p.length)).x (px p ((i+1)%p.length)).y=jr p i from rfl,st]
 .simp only[p9,dX,ak,Nat.sub_self,List.replicate_zero,append_nil];rfl
def WA(a:dP):Bool:=decide (0<=a.x)&&(decide (a.x<=1048576)&&(decide (0<=a.y)&&decide (a.y<=1048576)))
def uc(s:jN):Bool:=s.lj==s.lP
def PM(s t:jN):Bool:=decide (max (min s.lj s.lP) (min t.lj t.lP)<=min (max s.lj s.lP) (max t.lj t.lP))&&decide (max (min s.pp s.t8) (min t.pp t.t8)<=min (max s.pp s.t8) (max t.pp t.t8))
def WB(a b:dP):Bool:=decide (a.x<b.x) || (a.x==b.x&&decide (a.y<b.y))
theorem Pw(a:dP):vg a=some (WA a):=by simp only[vg,PP,WA]
theorem Ei(s t:jN):mh s t=some (PM s t):=by simp only[mh,PP,PM]
theorem nQ(s:jN):gV s=some (uc s):=rfl
theorem YT(a b:Int)(hn:3<=n):tT n [a,b]=some (if a=0 then b else a):=by
 obtain⟨m,rfl⟩:∃m,n=m+3:=⟨n -3,by omega⟩;have w1:i64.wrap ((0:Int)+1)=1:=by decide
 have w2:i64.wrap ((1:Int)+1)=2:=by decide
 by_cases ha:a=0
 .by_cases hb:b=0
  .subst ha;subst hb;simp only[tT,D6,wQ,w1,w2];rfl
  .have hb':(b !=0)=true:=(by simpa using hb);subst ha;simp only[tT,D6,wQ,w1];simp[br,hb',dm]
 .have ha':(a !=0)=true:=by simpa using ha
  simp only[tT,D6,wQ];simp[br,ha',dm,ha]
theorem M7(a b:dP)(hn:3<=n):∃r,tF n a b=some r/\decide (r>=0)=!WB a b:=by
 unfold tF;rw[kT,kT];simp only[af];rw[show ∀u v:Int,sub [u,v] 0 2=[u,v]from λ_ _=>rfl,YT _ _ hn];refine⟨_,rfl,?_⟩;unfold WB;by_cases h1:a.x<b.x
 .simp[h1]
 .by_cases h2:b.x<a.x
  .have h3:¬a.x=b.x:=(by omega);simp[h1,h2,h3]
  .have h3:a.x=b.x:=(by omega);by_cases h4:a.y<b.y
   .simp[h3,h4]
   .by_cases h5:b.y<a.y<;>simp[h3,h4,h5]
def Ks(p:U dP)(i:Nat):Bool:=
 (!WA (px p i) || ((((jr p i).lj==(jr p i).lP)==((jr p i).pp==(jr p i).t8)) || (uc (jr p i)==uc (jr p ((i+1)%p.length))))) || (decide (0<i)&&!WB (px p 0) (px p i))
def UU(p:U dP)(i k:Nat):Bool:=decide (i+p.length -k>1)&&PM (jr p i) (jr p k)
def RS(p:U dP):Bool:=
 decide (4<=p.length)&&(decide (p.length<=60)&&(!((List.range p.length).any (Ks p))&&(!((List.range p.length).any λi=>(List.range p.length).any λk=>decide (i+2<=k)&&UU p i k)&&!uc (jr p 0))))
def aiD(l:U ax)(x y:Int):Bool:=l.any λr=>(decide (r.x0<=x)&&decide (x<r.x1))&&(decide (r.y0<=y)&&decide (y<r.y1))
theorem agc(l:U ax)(x y:Int):gO (kr l x) y=aiD l x y:=by
 induction l with
 |nil=>rfl
 |cons r l ih=>
  unfold kr aiD at*;rw[List.filter_cons,List.any_cons,<- ih];cases h:(decide (r.x0<=x)&&decide (x<r.x1))with
  |true=>simp only[if_true,aF,Bool.true_and];rw[pq]
  |false=>simp
theorem Px{l:U ax}(h:∀r∈l,ef r=true)(x:Int):Can (dn l x)/\∀y,gO (dn l x) y=aiD l x y:=by
 have⟨h1,h2⟩:=acO (YS h x);exact⟨h1,λy=>by rw[dn,h2,agc]⟩
def YU:U bR->Prop
 |[]=>True
 |[s]=>s.x0<s.x1
 |s::t::l=>s.x0<s.x1/\s.x1=t.x0/\YU (t::l)
def JJ:U bR->Int->U aN
 |[],_=>[]
 |s::l,x=>bif decide (s.x0<=x)&&decide (x<s.x1)then s.column else JJ l x
theorem zX(s:bR)(l:U bR)(x:Int):JJ (s::l) x=bif decide (s.x0<=x)&&decide (x<s.x1)then s.column else JJ l x:=rfl
def Runs:U bR->Prop
 |[]=>True
 |[s]=>s.x0<s.x1/\s.column≠[]
 |s::t::l=>(s.x0<s.x1/\s.column≠[])/\s.x1<=t.x0/\(s.x1=t.x0->s.column≠t.column)/\Runs (t::l)
theorem apc{s:bR}{l:U bR}{x:Int}(h1:s.x0<=x)(h2:x<s.x1):JJ (s::l) x=s.column:=by rw[zX,show(decide (s.x0<=x)&&decide (x<s.x1))=true by simp[h1,h2]];rfl
theorem qW{α:Type}(f:Int->Int->α)(a b:Int)(l:U Int):jo f (a::b::l)=f a b::jo f (b::l):=rfl
theorem Py(g:Int->U aN):∀(es:U Int),es.Pairwise (· < ·)->YU (jo (λ a b=>(⟨a,b,g a⟩:bR)) es)
 |[],_=>trivial
 |[_],_=>trivial
 |[a,b],h=>by
  have h1:=(pairwise_cons.1 h).1 b (by simp);exact h1
 |a::b::c::l,h=>by
  have h1:=(pairwise_cons.1 h).1 b (by simp);exact⟨h1,rfl,Py g (b::c::l) (pairwise_cons.1 h).2⟩
theorem JK(g:Int->U aN)(x:Int):∀(es:U Int),(∀ e∈es,x<e)->JJ (jo (λ a b=>(⟨a,b,g a⟩:bR)) es) x=[]
 |[],_=>rfl
 |[_],_=>rfl
 |a::b::l,h=>by
  have ha:=h a (by simp);rw[qW,zX,show(decide (a<=x)&&decide (x<b))=false by rw[Bool.and_eq_false_iff,dD];left;omega,ak];exact JK g x (b::l) λe he=>h e (fF _ he)
theorem JL(g:Int->U aN)(x:Int):∀(l:U Int)(a:Int),(a::l).Pairwise (· < ·)->a<=x->
 (∀ e∈a::l,e<=x->(∀ e'∈a::l,e'<=e\/x<e')->g e=g x)->((∀ e∈a::l,e<=x)->g x=[])->JJ (jo (λ a b=>(⟨a,b,g a⟩:bR)) (a::l)) x=g x
 |[],a,_,hx,_,h2=>(h2 (λ e he=>by have:e=a:=by simpa using he
                                  subst this;exact hx)).symm
 |b::l,a,hp,hx,h1,h2=>by
  have hab:=(pairwise_cons.1 hp).1 b (by simp);rw[qW,zX];by_cases hb:x<b
  .rw[show (decide (a<=x)&&decide (x<b))=true by simp[hx,hb],aj];refine h1 a (by simp) hx λe he=>?_;rcases aO.1 he with rfl |he
   .exact .inl (Int.le_refl _)
   .right;rcases aO.1 he with rfl |he
    .exact hb
    .have:=(pairwise_cons.1 (pairwise_cons.1 hp).2).1 e he;omega
  .rw[show (decide (a<=x)&&decide (x<b))=false by simp[hb],ak];refine JL g x l b (pairwise_cons.1 hp).2 (by omega) (λ e he hex hc=>h1 e (fF _ he) hex λe' he'=>?_) λhall=>h2 λe he=>?_
   .rcases aO.1 he' with rfl |he'
    .left;have:=(pairwise_cons.1 hp).1 e he;omega
    .exact hc e' he'
   .rcases aO.1 he with rfl |he
    .exact hx
    .exact hall e he
theorem agf(g:Int->U aN)(es:U Int)(hp:es.Pairwise (· < ·))(x:Int)
 (h1:∀e∈es,e<=x->(∀ e'∈es,e'<=e\/x<e')->g e=g x) (h2:(∀ e∈es,e<=x)->g x=[]) (h3:(∀ e∈es,x<e)->g x=[]):JJ (jo (λ a b=>(⟨a,b,g a⟩:bR)) es) x=g x:=by
 cases es with
 |nil=>exact(h3 (by simp)).symm
 |cons a l=>
  by_cases hx:a<=x
  .exact JL g x l a hp hx h1 h2
  .have hall:∀e∈a::l,x<e:=by
    intro e he;rcases aO.1 he with rfl |he
    .omega
    .have:=(pairwise_cons.1 hp).1 e he;omega
   rw[JK g x _ hall,h3 hall]
theorem YV{l:U ax}{z:Int}:z∈iy l↔∃r∈l,z=r.x0\/z=r.x1:=by
 rw[iy,am2,List.mem_flatMap];simp
theorem MB(l:U ax):(iy l).Pairwise (· < ·):=afP _
theorem abb{l:U ax}{es:U Int}(hes:∀r∈l,r.x0∈es/\r.x1∈es){e x:Int}(hex:e<=x)(hc:∀e'∈es,e'<=e\/x<e'):kr l e=kr l x:=by
 unfold kr;congr 1;refine List.filter_congr λr hr=>?_;have⟨h0,h1⟩:=hes r hr;have:=hc _ h0;have:=hc _ h1;rw[fB,aG,aG,aJ,aJ,aJ,aJ];omega
theorem Pz{l:U ax}{x:Int}(h:∀r∈l,x<r.x0\/r.x1<=x):kr l x=[]:=by
 unfold kr;rw[List.map_eq_nil_iff,List.filter_eq_nil_iff];intro r hr;have:=h r hr;rw[aG,aJ,aJ];omega
theorem JM(l:U ax):YU (bq l):=Py _ _ (MB l)
theorem MC(l:U ax)(x:Int):JJ (bq l) x=dn l x:=by
 have hes:∀r∈l,r.x0∈iy l/\r.x1∈iy l:=λr hr=>⟨YV.2 ⟨r,hr,.inl rfl⟩,YV.2 ⟨r,hr,.inr rfl⟩⟩;refine agf (dn l) (iy l) (MB l) x (λ e _ hex hc=>?_) (λ hall=>?_) (λ hall=>?_)
 .unfold dn;rw[abb hes hex hc]
 .unfold dn;rw[Pz λr hr=> .inr (hall _ (hes r hr).2)];rfl
 .unfold dn;rw[Pz λr hr=> .inl (hall _ (hes r hr).1)];rfl
theorem alu{a:U ax}(h:cz a=true):rL a=(a,0):=by
 unfold cz at h;rw[aG,aJ,aJ]at h;obtain⟨h1,h2⟩:=h;exact Prod.ext h2 h1
theorem vD{a:U ax}(h:cz a=true):(∀ r∈a,ef r=true)/\a.length<=200/\oK (bq a)=a:=by
 have h:=alu h;unfold rL at h;split at h
 .rename_i hall;split at h
  .simp at h
  .split at h
   .simp at h
   .rename_i qT;injection h with h _;refine⟨all_eq_true.1 hall,?_,h⟩;rw[<- h];omega
 .simp at h
def ext(ab:U aN)(p:aN):U aN:=
 match ab.getLast? with
 |some q=>bif q.to==p.from_ then ab.dropLast++[⟨q.from_,p.to⟩]else ab++[p]
 |none=>[p]
def ke(a b:U aN):U Int:=yp ((a++b).flatMap λs=>[s.from_,s.to])
def vE(keep:Bool->Bool->Bool)(a b:U aN):U aN:=
 ((jo aN.mk (ke a b)).filter λp=>keep (gO a p.from_) (gO b p.from_)).foldl ext []
theorem aiE(o:U aN)(q p:aN):ext (o++[q]) p=bif q.to==p.from_ then o++[⟨q.from_,p.to⟩]else o++[q]++[p]:=by simp[ext]
def sD(keep:Bool->Bool->Bool)(a b:U ax):U bR:=
 jo (λ x x'=>(⟨x,x',vE keep (dn a x) (dn b x)⟩:bR)) (iy (a++b))
def vF(keep:Bool->Bool->Bool)(a b:U ax):U ax×Int:=
 if cz a&&cz b then(if (oK (sD keep a b)).length>200 then([],6)else(oK (sD keep a b),0))else([],1)
def YW{α:Type}(a0:U α)(a1:Int)(a2:(α×Int×Unit)->J Int):(Int×Int)->J ((Int×Int)⊕Int)
 |(v1,v2)=>(bif (decide (v1<(v2:Int)))then(ck (decide (0<=1)&&decide (1<=IntKind.u64.bits)) ((br a0 (i64.wrap ((IntKind.u64.wrap (i64.wrap (v1+v2)))/2 ^ (1:Int).toNat))).bind λx1=>(a2 (x1,a1,())).bind λr1=>(bif (decide (r1<(0:Int)))then some (.inl ((i64.wrap ((i64.wrap ((IntKind.u64.wrap (i64.wrap (v1+v2)))/2 ^ (1:Int).toNat))+1)),v2))else some (.inl (v1,(i64.wrap ((IntKind.u64.wrap (i64.wrap (v1+v2)))/2 ^ (1:Int).toNat)))))))else some (.inr v1))
theorem agh{α:Type}{l:U α}{key:Int}{φ:(α×Int×Unit)->J Int}(p:α->Bool)(f:α->Int)(hφ:∀x,φ (x,key,())=some (f x))(hf:∀x,decide (f x<0)=p x)
 (hm:∀i j (hj:j<l.length) (hij:i<j),p l[j]=true->p (l[i]'(by omega))=true) (hl:l.length<1099511627776):
 ∀(m i j n:Nat),j -i<=m->i<=j->j<=l.length->(∀ k (hk:k<i) (hkl:k<l.length),p l[k]=true)->(∀ k (hk:j<=k) (hkl:k<l.length),p l[k]=false)->m<n->
 ∃w:Nat,w<=l.length/\iter (YW l key φ) n ((i:Int),(j:Int))=some (w:Int)/\(∀ k (hk:k<w) (hkl:k<l.length),p l[k]=true)/\∀k (hk:w<=k) (hkl:k<l.length),p l[k]=false:=by
 intro m
 induction m with
 |zero=>
  intro i j n hm0 hij hjl h1 h2 hn;obtain⟨n,rfl⟩:∃q,n=q+1:=⟨n -1,by omega⟩;have:i=j:=by omega
  subst this;exact⟨i,hjl,fJ (by simp[YW]),h1,h2⟩
 |succ m ih=>
  intro i j n hm0 hij hjl h1 h2 hn;obtain⟨n,rfl⟩:∃q,n=q+1:=⟨n -1,by omega⟩;by_cases hlt:i<j
  .have c:decide ((i:Int)<(j:Int))=true:=(by simpa using hlt);have c1:(decide (0<=1)&&decide (1<=IntKind.u64.bits))=true:=rfl;have e:i64.wrap ((IntKind.u64.wrap (i64.wrap ((i:Int)+(j:Int))))/2 ^ (1:Int).toNat)=(((i+j)/2:Nat):Int):=by
    rw[arz (by omega),alg (by omega),show((((i+j:Nat):Int))/2 ^ (1:Int).toNat)=(((i+j)/2:Nat):Int)by
     rw[show (1:Int).toNat=1 from rfl,Int.pow_one];omega,Yu (by omega)]
   have hh:(i+j)/2<l.length:=(by omega);cases hp:p l[(i+j)/2]with
   |true=>
    have s:YW l key φ ((i:Int),(j:Int))=some (.inl ((((i+j)/2+1:Nat):Int),(j:Int))):=by
     simp only[YW,c,aj,c1,e,bf hh,af,hφ,hf,hp];rw[bA (by omega)]
    rw[kM s];refine ih _ _ n (by omega) (by omega) hjl (λ k hk hkl=>?_) h2 (by omega);by_cases hk2:k<(i+j)/2
    .exact hm k _ hh hk2 hp
    .have:k=(i+j)/2:=(by omega);subst this;exact hp
   |false=>
    have s:YW l key φ ((i:Int),(j:Int))=some (.inl ((i:Int),(((i+j)/2:Nat):Int))):=(by simp only[YW,c,aj,c1,e,bf hh,af,hφ,hf,hp,ak]);rw[kM s];refine ih _ _ n (by omega) (by omega) (by omega) h1 (λ k hk hkl=>?_) (by omega);by_cases hk2:(i+j)/2<k
    .cases hpk:p l[k]with
     |false=>rfl
     |true=>have:=hm _ k hkl hk2 hpk;rw[hp]at this;cases this
    .have:k=(i+j)/2:=(by omega);subst this;exact hp
  .have:i=j:=(by omega);subst this;exact⟨i,hjl,fJ (by simp[YW]),h1,h2⟩
theorem anI(l:U bR)(key:Int)(φ:(bR×Int×Unit)->J Int):l8 l key φ=YW l key φ:=by funext ⟨a,b⟩;rfl
theorem apd(l:U aN)(key:Int)(φ:(aN×Int×Unit)->J Int):ng l key φ=YW l key φ:=by funext ⟨a,b⟩;rfl
theorem YX:∀{l:U bR},YU l->l.Pairwise (λ s t=>s.x1<=t.x0)/\∀s∈l,s.x0<s.x1
 |[],_=>⟨List.Pairwise.nil,by simp⟩
 |[s],h=>⟨by simp,λt ht=>by have:t=s:=by simpa using ht
                            subst this;exact h⟩
 |s::t::l,h=>by
  obtain⟨h1,h2,h3⟩:=h;have⟨p1,p2⟩:=YX h3;refine⟨?_,?_⟩
  .rw[pairwise_cons];refine⟨λ u hu=>?_,p1⟩;rcases aO.1 hu with rfl |hu
   .omega
   .have:=(pairwise_cons.1 p1).1 u hu;have:=p2 t (by simp);omega
  .intro u hu;rcases aO.1 hu with rfl |hu
   .exact h1
   .exact p2 u hu
theorem M8{x:Int}:∀{l:U bR},(∀ s∈l,¬(s.x0<=x/\x<s.x1))->JJ l x=[]
 |[],_=>rfl
 |s::l,h=>by
  have:=h s (by simp);rw[zX,show(decide (s.x0<=x)&&decide (x<s.x1))=false by rw[Bool.and_eq_false_iff,dD,dD];omega,ak];exact M8 λt ht=>h t (by simp[ht])
theorem acQ{x:Int}:∀{l:U bR}{w:Nat}(hw:w<l.length),(∀ k (hk:k<w),¬((l[k]'(by omega)).x0<=x/\x<(l[k]'(by omega)).x1))->l[w].x0<=x->x<l[w].x1->JJ l x=l[w].column
 |[],w,hw,_,_,_=>by simp at hw
 |s::l,0,hw,_,h0,h1=>apc h0 h1
 |s::l,w+1,hw,hk,h0,h1=>by
  have hs:=hk 0 (by omega);simp only[List.getElem_cons_zero]at hs;rw[zX,show(decide (s.x0<=x)&&decide (x<s.x1))=false by rw[Bool.and_eq_false_iff,dD,dD];omega,ak];exact acQ (by simpa using hw) (λ k hk'=>by have:=hk (k+1) (by omega);simpa using this) h0 h1
theorem agi{l:U bR}{x:Int}(h:YU l)(hl:l.length<1099511627776)(hn:l.length<n):YP n l x=some (JJ l x):=by
 have⟨a1,a2⟩:=YX h;rw[List.pairwise_iff_getElem]at a1
 have run:=agh (l:=l) (key:=x) (φ:=λ(y1:bR×Int×Unit)=>xL y1.1 y1.2.1) (λ s=>decide (s.x1<=x)) (λ s=>if s.x1<=x then -1 else 1)
  (λ s=>by show xL s x=_;unfold xL;by_cases c:s.x1<=x<;>simp[c]) (λ s=>by by_cases c:s.x1<=x<;>simp[c])
  (λ i j hj hij hp=>by
   rw[aJ]at hp ⊢;have:=a1 i j (by omega) hj hij;have:=a2 l[j] (getElem_mem _);omega) hl l.length 0 l.length n (by omega) (by omega) (aC _) (λ k hk=>by omega) (λ k hk hkl=>by omega) hn
 obtain⟨w,hw,e,h1,h2⟩:=run;unfold YP jk;rw[anI];have e':iter (YW l x λ(y1:bR×Int×Unit)=>xL y1.1 y1.2.1) n ((0:Int),(l.length:Int))=some (w:Int):=e;rw[e'];simp only[af];have aw:∀b:Int,∃bb,((bif (decide ((w:Int)<((l.length:Int):Int)))then(br l (w:Int)).bind λx2=>(xL x2 x).bind λr2=>some ((w:Int),(r2==b))else some ((w:Int),false)):J (Int×Bool))=some ((w:Int),bb):=by
  intro b;by_cases c:w<l.length
  .have d:decide ((w:Int)<(l.length:Int))=true:=(by simpa using c);rw[d];simp only[aj];rw[bf c,af];unfold xL;cases decide (l[w].x1<=x)<;>exact⟨_,rfl⟩
  .have d:decide ((w:Int)<(l.length:Int))=false:=(by simp;omega);rw[d];exact⟨_,rfl⟩
 have⟨bb,hbb⟩:=aw 0;rw[hbb,af];simp only[];by_cases c:w<l.length
 .have d:decide ((w:Int)<(l.length:Int))=true:=by simpa using c
  simp only[d,aj,bf c,af];have hx1:=h2 w (aC _) c;rw[dD]at hx1;by_cases c2:l[w].x0<=x
  .simp only[c2,decide_true,aj];rw[acQ c (λ k hk hh=>?_) c2 (by omega)];have:=h1 k hk (by omega);rw[aJ]at this;omega
  .simp only[c2,decide_false,ak];rw[M8 λs hs hh=>?_];obtain⟨k,hk,rfl⟩:=mem_iff_getElem.1 hs;rcases Nat.lt_trichotomy k w with B4 |rfl |B4
   .have:=h1 k B4 hk;rw[aJ]at this;omega
   .omega
   .have:=a1 w k c hk B4;have:=a2 l[w] (getElem_mem _);omega
 .have d:decide ((w:Int)<(l.length:Int))=false:=by simp;omega
  simp only[d,ak,af];rw[M8 λs hs hh=>?_];obtain⟨k,hk,rfl⟩:=mem_iff_getElem.1 hs;have:=h1 k (by omega) hk;rw[aJ]at this;omega
theorem PD{l:U aN}{y:Int}(h:Can l)(hl:l.length<1099511627776)(hn:l.length<n):Ed n l y=some (gO l y):=by
 obtain⟨a1,a2⟩:=h;rw[List.pairwise_iff_getElem]at a1
 have run:=agh (l:=l) (key:=y) (φ:=λ(y1:aN×Int×Unit)=>l9 y1.1 y1.2.1) (λ s=>decide (s.to<=y)) (λ s=>if s.to<=y then -1 else 1)
  (λ s=>by show l9 s y=_;unfold l9;by_cases c:s.to<=y<;>simp[c]) (λ s=>by by_cases c:s.to<=y<;>simp[c])
  (λ i j hj hij hp=>by
   rw[aJ]at hp ⊢;have:=a1 i j (by omega) hj hij;have:l[j].from_<l[j].to:=a2 l[j] (getElem_mem _);omega) hl l.length 0 l.length n (by omega) (by omega) (aC _) (λ k hk=>by omega) (λ k hk hkl=>by omega) hn
 obtain⟨w,hw,e,h1,h2⟩:=run;unfold Ed jJ;rw[apd];have e':iter (YW l y λ(y1:aN×Int×Unit)=>l9 y1.1 y1.2.1) n ((0:Int),(l.length:Int))=some (w:Int):=e;rw[e'];simp only[af];have aw:∀b:Int,∃bb,((bif (decide ((w:Int)<((l.length:Int):Int)))then(br l (w:Int)).bind λx2=>(l9 x2 y).bind λr2=>some ((w:Int),(r2==b))else some ((w:Int),false)):J (Int×Bool))=some ((w:Int),bb):=by
  intro b;by_cases c:w<l.length
  .have d:decide ((w:Int)<(l.length:Int))=true:=(by simpa using c);rw[d];simp only[aj];rw[bf c,af];unfold l9;cases decide (l[w].to<=y)<;>exact⟨_,rfl⟩
  .have d:decide ((w:Int)<(l.length:Int))=false:=(by simp;omega);rw[d];exact⟨_,rfl⟩
 have⟨bb,hbb⟩:=aw 0;rw[hbb,af];simp only[];by_cases c:w<l.length
 .have d:decide ((w:Int)<(l.length:Int))=true:=by simpa using c
  simp only[d,aj,bf c,af];have hx1:=h2 w (aC _) c;rw[dD]at hx1;congr 1;rw[fB,aJ,Pv];constructor
  .exact λhf=>⟨l[w],getElem_mem _,hf,by omega⟩
  .rintro⟨s,hs,g1,g2⟩;obtain⟨k,hk,rfl⟩:=mem_iff_getElem.1 hs;rcases Nat.lt_trichotomy k w with B4 |rfl |B4
   .have:=h1 k B4 hk;rw[aJ]at this;omega
   .exact g1
   .have:=a1 w k c hk B4;omega
 .have d:decide ((w:Int)<(l.length:Int))=false:=by simp;omega
  simp only[d,ak];congr 1;symm;cases hh:gO l y with
  |false=>rfl
  |true=>
   obtain⟨s,hs,g1,g2⟩:=(Pv _ _).1 hh;obtain⟨k,hk,rfl⟩:=mem_iff_getElem.1 hs;have:=h1 k (by omega) hk;rw[aJ]at this;omega
theorem PE{l:U (List aN)}(hf:l.flatten.length<1099511627776)(hl:l.length<1099511627776)(hn:l.length<n):zS n l=some l.flatten:=OQ (aN.mk 0 0) (b:=16) hf (by omega) hl hn
theorem PG(l:U aN):(l.flatMap λr=>[r.from_,r.to]).length=2*l.length:=by
 induction l with
 |nil=>rfl
 |cons x l ih=>simp only[List.flatMap_cons,dM,ih,bn,length_nil];omega
theorem UW{l:U aN}(hl:l.length<10995116277)(hn:l.length<n):iter (xM l) n ((0:Int),([]:U Int))=some (l.flatMap λr=>[r.from_,r.to]):=by
 have:=fO (l:=l) (step:=xM l) (λ i (s:List Int)=>((i:Int),s)) (λ r s=>s++[r.from_,r.to]) (λ s=>s) (λ i s=>s.length<=2*i)
  (λ i hi s hs=>?_) (λ s hs=>by simp[xM]) n hn [] (aC _)
 .rw[show ((0:Nat):Int)=0 from rfl]at this;rw[this];have gen:∀(ys:U aN)(s:U Int),ys.foldl (λ s r=>s++[r.from_,r.to]) s=s++ys.flatMap λr=>[r.from_,r.to]:=by
   intro ys
   induction ys with
   |nil=>intro s;simp
   |cons y ys ih=>intro s;simp[ih]
  congr 1;simpa using gen l []
 .have hi':decide ((i:Int)<(l.length:Int))=true:=by simpa using hi
  have ap:bP s.length s.length (sub ([l[i].from_,l[i].to]:U Int) 0 2).length 2 8=true:=cu (n:=2);simp only[xM,hi',aj,bE hi,bJ hi,af,ap,dY,aD];refine⟨?_,by simp;omega⟩;rw[bA (by omega)];rfl
theorem M9{α β:Type}(p:α->Bool)(f:β->α->β):∀(l:U α)(s:β),(l.filter p).foldl f s=l.foldl (λ s x=>bif p x then f s x else s) s
 |[],s=>rfl
 |x::l,s=>by
  rw[List.filter_cons,foldl_cons];cases h:p x with
  |true=>simp only[if_true,foldl_cons,aj];exact M9 p f l _
  |false=>simp only[Bool.false_eq_true,if_false,ak];exact M9 p f l _
theorem YZ(ab:U aN)(p:aN):(ext ab p).length<=ab.length+1:=by
 unfold ext;cases ab.getLast? with
 |none=>simp
 |some q=>simp only;cases q.to==p.from_<;>simp<;>omega
theorem Y0(a b:U aN):(ke a b).length<=2*(a.length+b.length):=by
 have h:=pu (kD (λ a b=>decide (a<b)) ((a++b).flatMap λr=>[r.from_,r.to]));rw[dH,PG,dM]at h;exact h
theorem abd(keep:Bool->Bool->Bool)(a b:U aN):(vE keep a b).length<=2*(a.length+b.length):=by
 have gen:∀(ys ab:U aN),(ys.foldl ext ab).length<=ab.length+ys.length:=by
  intro ys
  induction ys with
  |nil=>intro ab;simp
  |cons y ys ih=>
   intro ab;simp only[foldl_cons,bn];have:=ih (ext ab y);have:=YZ ab y;omega
 have h:=gen ((jo aN.mk (ke a b)).filter λp=>keep (gO a p.from_) (gO b p.from_)) [];have h2:=length_filter_le (λ p=>keep (gO a p.from_) (gO b p.from_)) (jo aN.mk (ke a b));have h3:=(tZ aN.mk (ke a b)).1;have h4:=Y0 a b;simp only[length_nil]at h;unfold vE;omega
theorem agj{keep:Bool->Bool->Bool}{φ:(Bool×Bool×Unit)->J Bool}(hφ:∀p q,φ (p,q,())=some (keep p q)){a b:U aN}(ha:Can a)(hb:Can b)(hl:a.length+b.length<1099511627)(hn:2*(a.length+b.length)+2<n):JC n a b φ=some (vE keep a b):=by
 have fl:[a,b].flatten=a++b:=by simp
 have s2:(sub ([a,b]:U (List aN)) 0 2)=[a,b]:=rfl;have q2:be ([a,b]:U (List aN)).length 2=true:=rfl;have hys:=Y0 a b;have hfl:((a++b).flatMap λr=>[r.from_,r.to]).length=2*(a.length+b.length):=by rw[PG,dM]
 unfold JC;rw[s2,q2];simp only[aj];rw[PE (by rw[fl,dM];omega) (by simp) (by simp;omega),fl];simp only[af,length_nil,aD,aj,UW (l:=a++b) (n:=n) (by rw[dM];omega) (by rw[dM];omega)];rw[nP (by rw[hfl];omega) (by rw[hfl];omega)];simp only[af,dH,aD,aj];rw[qa (by rw[dH,hfl];omega) (by rw[dH,hfl];omega)];simp only[af];have hE:gT (kD m9 ((a++b).flatMap λr=>[r.from_,r.to]))=ke a b:=rfl;rw[hE];have⟨p1,p2⟩:=tZ aN.mk (ke a b);have key:iter (xN n a b φ ((),ke a b)) n ((1:Int),([]:U aN))=some (vE keep a b):=by
  have:=fO (l:=jo aN.mk (ke a b)) (step:=xN n a b φ ((),ke a b)) (λ i (s:List aN)=>(((i+1:Nat):Int),s)) (λ p s=>bif keep (gO a p.from_) (gO b p.from_)then ext s p else s) (λ s=>s) (λ i s=>s.length<=i)
   (λ i hi s hs=>?_) (λ s hs=>?_) n (by omega) [] (aC _)
  .rw[show ((0+1:Nat):Int)=1 from rfl]at this;rw[this,vE,M9]
  .have hi2:i+1<(ke a b).length:=(by omega);have hi1:i<(ke a b).length:=(by omega);have d:decide (((i+1:Nat):Int)<(((ke a b).length:Nat):Int))=true:=(by simp;omega);have wp:i64.wrap (((i+1:Nat):Int) -1)=(i:Int):=(by rw[pF (by omega) (by omega)];rfl);have pe:(jo aN.mk (ke a b))[i]=aN.mk (ke a b)[i] (ke a b)[i+1]:=p2 i hi2 hi;rw[pe];have lx:=YZ s (aN.mk (ke a b)[i] (ke a b)[i+1]);have ap:bP s.length s.length (sub ([(aN.mk (ke a b)[i] (ke a b)[i+1])]:U aN) 0 1).length 1 16=true:=cu (n:=1);have sb:(sub ([(aN.mk (ke a b)[i] (ke a b)[i+1])]:U aN) 0 1)=[aN.mk (ke a b)[i] (ke a b)[i+1]]:=rfl;refine⟨?_,by cases keep (gO a (ke a b)[i]) (gO b (ke a b)[i])<;>simp only[aj,ak]<;>omega⟩;simp only[xN,d,aj,wp,bE hi1,bJ hi1,af,PD (n:=n) ha (show a.length<1099511627776 by omega) (show a.length<n by omega),PD (n:=n) hb (show b.length<1099511627776 by omega) (show b.length<n by omega),hφ];cases hk:keep (gO a (ke a b)[i]) (gO b (ke a b)[i])with
   |false=>
    simp only[Bool.not_false,aj,aD,af,ak];rw[bA (by omega)]
   |true=>
    simp only[Bool.not_true,ak,aj];rcases List.eq_nil_or_concat s with rfl |⟨s0,q,HI⟩
    .have d0:decide (((([]:U aN).length:Nat):Int)>0)=false:=(by simp);simp only[d0,ak,af,bE hi2,bJ hi2,aj,ap,dY,aD];rw[bA (by omega)];rfl
    .rw[List.concat_eq_append]at HI;subst HI;have d0:decide (((((s0++[q]).length:Nat):Int))>0)=true:=(by simp<;>omega);have A4:(s0++[q]).length=s0.length+1:=(by simp);have wq:i64.wrap ((((s0++[q]).length:Nat):Int) -1)=(s0.length:Int):=(by rw[pF (by simp) (by omega),A4];rfl);have Ss:co (s0.length:Int) (s0++[q]).length=true:=bE (by omega);have g:br (s0++[q]) (((0:Nat):Int)+(s0.length:Int))=some q:=(by rw[Bu];simp);have z:(((0:Nat):Int)+(s0.length:Int)).toNat=s0.length:=(by simp);have st:(s0++[q]).set s0.length (aN.mk q.from_ (ke a b)[i+1])=s0++[⟨q.from_,(ke a b)[i+1]⟩]:=(by simp);simp only[d0,aj,wq,Ss,g,af,aiE];cases hj:q.to==(ke a b)[i]with
     |true=>
      simp only[aj,bE hi2,bJ hi2,af,z,st];have e:be (s0++[q]).length (s0++[(⟨q.from_,(ke a b)[i+1]⟩:aN)]).length=true:=(by simp);simp only[e,aj,af,aD];rw[bA (by omega)]
     |false=>
      rw[sb]at ap;simp only[ak,bE hi2,bJ hi2,af,aj,sb,ap,dY,aD];rw[bA (by omega)]
  .have d:decide ((((jo aN.mk (ke a b)).length+1:Nat):Int)<(((ke a b).length:Nat):Int))=false:=(by simp;omega);simp only[xN,d,ak,aD,aj]
 rw[key];simp only[af,bK,aD,aj]
theorem Ej(keep:Bool->Bool->Bool)(a b:U ax):sD keep a b=(bq (a++b)).map λs=>⟨s.x0,s.x1,vE keep (dn a s.x0) (dn b s.x0)⟩:=by
 have gen:∀es:U Int,jo (λ x x'=>(⟨x,x',vE keep (dn a x) (dn b x)⟩:bR)) es=(jo (λ x x'=>(⟨x,x',dn (a++b) x⟩:bR)) es).map λs=>⟨s.x0,s.x1,vE keep (dn a s.x0) (dn b s.x0)⟩:=by
  intro es
  match es with
  |[]=>rfl
  |[_]=>rfl
  |x::y::l=>
   rw[qW,qW,aF];congr 1;have:∀es:U Int,jo (λ x x'=>(⟨x,x',vE keep (dn a x) (dn b x)⟩:bR)) es=(jo (λ x x'=>(⟨x,x',dn (a++b) x⟩:bR)) es).map λs=>⟨s.x0,s.x1,vE keep (dn a s.x0) (dn b s.x0)⟩:=by
    intro es
    induction es with
    |nil=>rfl
    |cons x es ih=>
     cases es with
     |nil=>rfl
     |cons y es=>rw[qW,qW,aF,ih]
   exact this (y::l)
 exact gen (iy (a++b))
theorem abe{keep:Bool->Bool->Bool}{φ:(Bool×Bool×Unit)->J Bool}(hφ:∀p q,φ (p,q,())=some (keep p q)){a b:U ax}(ha:a.length<1099511627776)(hb:b.length<1099511627776)(hna:a.length<n)(hnb:b.length<n)(hn:1000<=n):FH n a b φ=some (vF keep a b):=by
 unfold FH vF;rw[jq ha hna hn,af];cases hra:cz a with
 |false=>rfl
 |true=>
  rw[jq hb hnb hn];simp only[Bool.not_true,ak,af,Bool.true_and];cases hrb:cz b with
  |false=>rfl
  |true=>
   have⟨a1,a2,_⟩:=vD hra;have⟨b1,b2,_⟩:=vD hrb;have fa:[a].flatten=a:=(by simp);have fb:[b].flatten=b:=(by simp);have fab:[a,b].flatten=a++b:=(by simp);have hab:∀r∈a++b,ef r=true:=λr hr=>by
    rcases bg.1 hr with hr |hr
    .exact a1 r hr
    .exact b1 r hr
   have sa:pG n [a]=some (bq a):=by
    have:=yU (n:=n) (ls:=[a]) (by rw[fa];exact a1) (by rw[fa];omega) (by simp) (by rw[fa];omega) (by simp;omega)
    rwa [fa]at this
   have sb:pG n [b]=some (bq b):=by
    have:=yU (n:=n) (ls:=[b]) (by rw[fb];exact b1) (by rw[fb];omega) (by simp) (by rw[fb];omega) (by simp;omega)
    rwa [fb]at this
   have lab:(a++b).length=a.length+b.length:=dM;have sab:pG n [a,b]=some (bq (a++b)):=by
    have:=yU (n:=n) (ls:=[a,b]) (by rw[fab];exact hab) (by rw[fab,lab];omega) (by simp) (by rw[fab,lab];omega) (by simp;omega)
    rwa [fab]at this
   have e1:(sub ([a]:U (List ax)) 0 1)=[a]:=rfl;have e2:(sub ([b]:U (List ax)) 0 1)=[b]:=rfl;have e3:(sub ([a,b]:U (List ax)) 0 2)=[a,b]:=rfl;have q1:be ([a]:U (List ax)).length 1=true:=rfl;have q2:be ([b]:U (List ax)).length 1=true:=rfl;have q3:be ([a,b]:U (List ax)).length 2=true:=rfl;have la:=vC a;have lb:=vC b;have lS:=vC (a++b);rw[lab]at lS;have mc:∀x,(dn a x).length<=200/\(dn b x).length<=200:=λx=>⟨Nat.le_trans (zV a x) a2,Nat.le_trans (zV b x) b2⟩;have lm:∀x,(vE keep (dn a x) (dn b x)).length<=800:=λx=>by
    have:=abd keep (dn a x) (dn b x);have:=mc x;omega
   have key:iter (rY n φ (bq a) (bq b) (bq (a++b))) n ((0:Int),bq (a++b))=some (sD keep a b):=by
    have:=lZ (step:=rY n φ (bq a) (bq b) (bq (a++b))) (λ i=>((i:Int),(sD keep a b).take i++(bq (a++b)).drop i)) (bq (a++b)).length (sD keep a b) (λ i hi=>?_) ?_ n (by omega)
    .simpa using this
    .have d:decide ((i:Int)<(((bq (a++b)).length:Nat):Int))=true:=(by simpa using hi);have lc:(sD keep a b).length=(bq (a++b)).length:=(by rw[Ej,length_map]);have lt:((sD keep a b).take i).length=i:=(by rw[length_take];omega);have hd:(bq (a++b)).drop i=(bq (a++b))[i]::(bq (a++b)).drop (i+1):=List.drop_eq_getElem_cons hi;have g:br ((sD keep a b).take i++(bq (a++b)).drop i) (((0:Nat):Int)+(i:Int))=some (bq (a++b))[i]:=(by rw[Bu,lM (by omega),lt,hd];simp);have st:∀s:bR,((sD keep a b).take i++(bq (a++b)).drop i).set i s=(sD keep a b).take i++s::(bq (a++b)).drop (i+1):=by
      intro s;rw[List.set_append_right _ _ (by omega),lt,hd,Nat.sub_self];rfl
     have z:(((0:Nat):Int)+(i:Int)).toNat=i:=(by simp);have tk:(sD keep a b).take (i+1)=(sD keep a b).take i++[⟨(bq (a++b))[i].x0,(bq (a++b))[i].x1,vE keep (dn a (bq (a++b))[i].x0) (dn b (bq (a++b))[i].x0)⟩]:=by
      rw[fD (by omega)];congr 2;simp only[Ej,List.getElem_map]
     have hm:=mc (bq (a++b))[i].x0;have mg:JC n (dn a (bq (a++b))[i].x0) (dn b (bq (a++b))[i].x0) φ=some (vE keep (dn a (bq (a++b))[i].x0) (dn b (bq (a++b))[i].x0)):=
      agj hφ (Px a1 _).1 (Px b1 _).1 (by omega) (by omega)
     have at1:YP n (bq a) (bq (a++b))[i].x0=some (dn a (bq (a++b))[i].x0):=(by rw[agi (JM a) (by omega) (by omega),MC]);have at2:YP n (bq b) (bq (a++b))[i].x0=some (dn b (bq (a++b))[i].x0):=(by rw[agi (JM b) (by omega) (by omega),MC]);simp only[rY,d,aj,bE hi,g,af,bK,at1,at2,mg,aD,z,st];rw[bA (by omega),tk,aM];rfl
    .have lc:(sD keep a b).length=(bq (a++b)).length:=(by rw[Ej,length_map]);have d:decide ((((bq (a++b)).length:Nat):Int)<(((bq (a++b)).length:Nat):Int))=false:=(by simp);simp only[rY,d,ak,List.drop_length,append_nil];rw[take_of_length_le (by omega)]
   have lc:(sD keep a b).length=(bq (a++b)).length:=(by rw[Ej,length_map]);have cc:∀s∈sD keep a b,s.column.length<=800:=by
    intro s hs;rw[Ej,mem_map]at hs;obtain⟨t,_,rfl⟩:=hs;exact lm _
   have sl:sub (sD keep a b) 0 (bq (a++b)).length=sD keep a b:=(by rw[<- lc,bK]);simp only[Bool.not_true,ak,e1,e2,e3,q1,q2,q3,aj,sa,sb,sab,af,bK,aD,key,sl,lc];rw[Uq (b:=800) (by omega) (by omega) cc (by omega) (by omega)];simp only[af,bK,aD,aj,zO,if_true,Bool.and_self];by_cases qT:(oK (sD keep a b)).length>200
   .have:decide (((oK (sD keep a b)).length:Int)>200)=true:=(by simp;omega);simp only[this,aj,af,qT,if_true]
   .have:decide (((oK (sD keep a b)).length:Int)>200)=false:=(by simp;omega);simp only[this,ak,af,qT,if_false]
theorem aee{a b:U ax}(ha:a.length<1099511627776)(hb:b.length<1099511627776)(hna:a.length<n)(hnb:b.length<n)(hn:1000<=n):KU n a b=some (vF (λ p q=>p&&q) a b):=by
 unfold KU;rw[abe (keep:=λp q=>p&&q) (λ p q=>by show yM p q=_;unfold yM;cases p<;>rfl) ha hb hna hnb hn];rfl
theorem aef{keep:Bool->Bool->Bool}(a b:U ax):(vF keep a b).1.length<=200:=by
 unfold vF;split
 .split
  .simp
  .show(oK _).length<=200;omega
 .simp
def Ur(r:ax):Int:=(r.x1 -r.x0)*(r.y1 -r.y0)
def Na(l:U ax):Int:=(l.map Ur).sum
theorem JN{r:ax}(h:ef r=true):0<=Ur r/\Ur r<=1099511627776:=by
 simp only[ef,aG,aJ]at h;unfold Ur;refine⟨Int.mul_nonneg (by omega) (by omega),?_⟩;have:=Int.mul_le_mul (show r.x1 -r.x0<=1048576 by omega) (show r.y1 -r.y0<=1048576 by omega) (by omega) (by omega);omega
theorem Y1:∀{l:U ax},(∀ r∈l,ef r=true)->0<=Na l/\Na l<=1099511627776*(l.length:Int)
 |[],_=>by simp[Na]
 |r::l,h=>by
  have h1:=JN (h r List.mem_cons_self);have h2:=Y1 (l:=l) λq hq=>h q (fF _ hq);have e:Na (r::l)=Ur r+Na l:=rfl;rw[e,bn]
  push_cast
  omega
theorem JO{l:U ax}{φ:(ax×Unit)->J Bool}(p:ax->Bool)(h:∀x∈l,φ (x,())=some (p x))(hl:l.length<1099511627776)(hn:l.length<n):vB n l φ=some (zI p l):=fT p h hl hn
theorem uy{l:U ax}{φ:(ax×Unit)->J Bool}(p:ax->Bool)(h:∀x∈l,φ (x,())=some (p x))(hl:l.length<1099511627776)(hn:l.length<n):jm n l φ=some (l.any p):=by
 unfold jm;rw[JO p h hl hn,af,uL]
theorem acR:∀(l:U Int)(x:Int),(l++[x]).sum=l.sum+x
 |[],x=>by simp
 |a::l,x=>by rw[List.cons_append,List.sum_cons,List.sum_cons,acR l x];omega
theorem alv{r:ax}(h:ef r=true):zP r=some (Ur r):=by
 have hb:=JN h;unfold zP zi;rw[jK,h];simp only[af,aj];simp only[ef,aG,aJ]at h;unfold Ur at*;rw[dI (x:=r.x1 -r.x0),dI (x:=r.y1 -r.y0),dI (by omega) (by omega)]
theorem Y2{a:U ax}(ha:a.length<=900)(hn:1000<=n):Ph n a=some (bif cz a then Na a else 0):=by
 unfold Ph;rw[jq (by omega) (by omega) hn];simp only[af];cases hr:cz a with
 |false=>rfl
 |true=>
  have ok:=(vD hr).1;have:=lZ (step:=FB a) (λ i=>(Na (a.take i),(i:Int))) a.length (Na a) (λ i hi=>?_) ?_ n (by omega)
  .have e:Na (a.take 0)=0:=rfl;rw[e,show((0:Nat):Int)=0 from rfl]at this;simp only[Bool.not_true,ak,aj,this,af]
  .have c:decide ((i:Int)<(a.length:Int))=true:=(by simpa using hi);have h1:=Y1 (l:=a.take i) λr hr=>ok r (List.mem_of_mem_take hr);rw[length_take]at h1;have h2:=JN (ok _ (getElem_mem hi));have e:Na (a.take (i+1))=Na (a.take i)+Ur a[i]:=(by rw[fD hi];unfold Na;rw[map_append];exact acR _ _);simp only[FB,c,aj,bf hi,af,alv (ok _ (getElem_mem hi))];rw[bA (by omega),dI (by omega) (by omega),e]
  .simp[FB]
theorem RU{α:Type}(p:α->Bool)(l:U α):(match jA p l with |some _=>true |none=>false)=l.any p:=by
 have:=jf p l;rw[<- this];cases jA p l<;>rfl
def Of(p q:ax):Bool:=decide (max p.x0 q.x0<min p.x1 q.x1)&&decide (max p.y0 q.y0<min p.y1 q.y1)
def LI(a b:U ax):Bool:=a.any λp=>b.any λq=>Of p q
theorem aiF{a b:U ax}(ha:a.length<1099511627776)(hb:b.length<1099511627776)(hna:a.length<n)(hnb:b.length<n):Wy n a b=some (LI a b):=by
 unfold Wy LI;rw[uy (λ p=>b.any λq=>Of p q) (λ p _=>?_) ha hna]
 .rfl
 .show FN n p b=_;unfold FN;rw[uy (λ q=>Of p q) (λ q _=>?_) hb hnb]
  .rfl
  .show wU q p=_;unfold wU Of;have e1:max q.x0 p.x0=max p.x0 q.x0:=(by omega);have e2:min q.x1 p.x1=min p.x1 q.x1:=(by omega);have e3:max q.y0 p.y0=max p.y0 q.y0:=(by omega);have e4:min q.y1 p.y1=min p.y1 q.y1:=by omega
   first
    |(cases decide (max p.x0 q.x0<min p.x1 q.x1)<;>rfl)
    |(rw [e1,e2,e3,e4];cases decide (max p.x0 q.x0<min p.x1 q.x1)<;>rfl)
theorem aiG{a b:U ax}(hl:a.length<1099511627776)(hn:a.length<n):Wx n a b=some (decide (a=b)):=by
 unfold Wx;rw[Ef hl hn];rfl
abbrev xm(a b:ax):Bool:=decide (a.y0<b.y0)
theorem akg:Go.Sort.SWO xm where
 irrefl x:=by simp[xm]
 trans x y z h1 h2:=by simp only[xm,aJ]at *;omega
 ntrans x y z h1 h2:=by simp only[xm,dD]at *;omega
instance:Inhabited ax:=⟨ax.mk 0 0 0 0⟩
theorem Lh{l:U ax}{φ:(ax×ax×Unit)->J Int}(f:ax->ax->Int)(hφ:∀x y,φ (x,y,())=some (f x y))(hf:∀x y,decide (f x y<0)=xm x y)(hl:l.length<1099511627776)(_:l.length<n):wF n l φ=some (oQ xm l):=
 afZ f hφ hf akg hl
structure arB(R:List bR):Prop where
 runs:Runs R
 len:R.length<=200
 col:∀s∈R,Can s.column/\∀q∈s.column,0<=q.from_/\q.from_<q.to/\q.to<=1048576
 xs:∀s∈R,0<=s.x0/\s.x0<s.x1/\s.x1<=1048576
 zt:(R.flatMap λs=>s.column.map (·.from_)).length<=200
theorem aiH(p:Nat->Bool)(N:Nat):(jA p (List.range N)=none->(List.range N).any p=false)/\(∀ i,jA p (List.range N)=some i->(List.range N).any p=true):=by
 refine⟨λ h=>?_,λi h=>?_⟩
 .rw[<- jf,h];rfl
 .rw[<- jf,h];rfl
theorem JP{W O:Type}{step:Int->J (Int⊕(W⊕O))}(N:Nat)(p:Nat->Bool)(w:W)(o:O)
 (h:∀i,i<N->step (i:Int)=some (bif p i then .inr (.inr o)else .inl ((i+1:Nat):Int)))
 (hend:step (N:Int)=some (.inr (.inl w))) (n:Nat) (hn:N<n):iter step n (0:Int)=some (bif (List.range N).any p then .inr o else .inl w):=by
 have:=iL (l:=List.range N) (step:=step) (λ i=>(i:Int)) p w (λ _=>o) (λ i hi=>by
  rw[List.length_range]at hi;rw[List.getElem_range];exact h i hi) (by rw[List.length_range];exact hend) n (by rw[List.length_range];exact hn)
 rw[show ((0:Nat):Int)=0 from rfl]at this;rw[this];have⟨r1,r2⟩:=aiH p N;cases hf:jA p (List.range N)with
 |none=>rw[r1 hf];rfl
 |some i=>rw[r2 i hf];rfl
theorem JQ{p:U dP}(hl:p.length<=1000)(hn:2000<=n):iter (qO n p (gD p)) n (0:Int)=some (bif (List.range p.length).any (Ks p)then .inr false else .inl ()):=by
 refine JP p.length (Ks p) () false (λ i hi=>?_) ?_ n (by omega)
 .have nz:((p.length:Int) !=0)=true:=by simp;intro h;rw[h]at hi;simp at hi
  have md:(i+1)%p.length<p.length:=Nat.mod_lt _ (by omega);have w:i64.wrap ((i:Int)+1)=((i+1:Nat):Int):=bA (by omega);have g1:br (gD p) (((0:Nat):Int)+(i:Int))=some (jr p i):=by rw[bJ (by rw[eG];exact hi),zW]
  have g2:br (gD p) (((0:Nat):Int)+(((i+1)%p.length:Nat):Int))=some (jr p ((i+1)%p.length)):=by rw[bJ (by rw[eG];exact md),zW]
  obtain⟨r,hr1,hr2⟩:=M7 (n:=n) (px p 0) (px p i) (by omega);have g3:br p 0=some (px p 0):=by rw[aj0 (by omega),<- Wz]
  have g4:br p (i:Int)=some (px p i):=by rw[bf hi,<- Wz]
  have dz:decide ((i:Int)>0)=decide (0<i):=by rw[fB];simp
  have pt:dP.mk (jr p i).lj (jr p i).pp=px p i:=rfl;simp only[qO,eG,bZ hi,aj,bE hi,g1,g2,af,nz,w,Eh,bE md,pt,Pw,nQ,Cs,g3,g4,hr1,hr2,dz,Option.map_some];unfold Ks;generalize WA (px p i)=b1;generalize (((jr p i).lj==(jr p i).lP)==((jr p i).pp==(jr p i).t8))=b2;generalize (uc (jr p i)==uc (jr p ((i+1)%p.length)))=b3;generalize decide (0<i)=b4;generalize WB (px p 0) (px p i)=b5;cases b1<;>cases b2<;>cases b3<;>cases b4<;>cases b5<;>rfl
 .simp only[qO,eG,dX,ak]
theorem JR{p:U dP}(hl:p.length<=1000)(hn:2000<=n){i:Nat}(hi:i<p.length):
 iter (jd (gD p) (i:Int)) n (((i+2:Nat):Int))=some (bif (List.range p.length).any λk=>decide (i+2<=k)&&UU p i k then .inr (.inr (.inr false))else .inl ()):=by
 have st:∀k,k<p.length->jd (gD p) (i:Int) (k:Int)=some (bif UU p i k then .inr (.inr (.inr (.inr false)))else .inl ((k+1:Nat):Int)):=by
  intro k hk;have g1:br (gD p) (((0:Nat):Int)+(i:Int))=some (jr p i):=by rw[bJ (by rw[eG];exact hi),zW]
  have g2:br (gD p) (((0:Nat):Int)+(k:Int))=some (jr p k):=by rw[bJ (by rw[eG];exact hk),zW]
  have w:i64.wrap (i64.wrap ((i:Int)+(p.length:Int)) -(k:Int))=((i+p.length -k:Nat):Int):=by rw[dI (x:=(i:Int)+(p.length:Int)),dI (by omega) (by omega)];omega
  have dz:decide (((i+p.length -k:Nat):Int)>1)=decide (i+p.length -k>1):=by rw[fB,aJ,aJ];omega
  simp only[jd,eG,bZ hk,aj,bE hi,bE hk,g1,g2,af,w,dz,Ei,Cs,Option.map_some,aP k];unfold UU;cases decide (i+p.length -k>1)<;>cases PM (jr p i) (jr p k)<;>rfl
 have main:∀m k,k+m=p.length->∀f,m<f->iter (jd (gD p) (i:Int)) f (k:Int)=some (bif (List.range p.length).any λj=>decide (k<=j)&&UU p i j then .inr (.inr (.inr false))else .inl ()):=by
  intro m
  induction m with
  |zero=>
   intro k hk f hf;obtain⟨f,rfl⟩:∃g,f=g+1:=⟨f -1,by omega⟩;have:k=p.length:=(by omega);subst this;have e:((List.range p.length).any λj=>decide (p.length<=j)&&UU p i j)=false:=by
    rw[Bool.eq_false_iff];intro h;rw[any_eq_true]at h;obtain⟨j,h1,h2⟩:=h;rw[List.mem_range]at h1;simp only[aG,aJ]at h2;omega
   rw[e];refine fJ ?_;simp only[jd,eG,dX,ak]
  |succ m ih=>
   intro k hk f hf;obtain⟨f,rfl⟩:∃g,f=g+1:=⟨f -1,by omega⟩;have hkl:k<p.length:=(by omega);have h1:=st k hkl;cases hb:UU p i k with
   |true=>
    rw[hb]at h1;have e:((List.range p.length).any λj=>decide (k<=j)&&UU p i j)=true:=by
     rw[any_eq_true];exact⟨k,List.mem_range.2 hkl,by simp[hb]⟩
    rw[e];exact fJ h1
   |false=>
    rw[hb]at h1;rw[kM h1,ih (k+1) (by omega) f (by omega)];congr 2;rw[fB,any_eq_true,any_eq_true];constructor
    .rintro⟨j,j1,j2⟩;simp only[aG,aJ]at j2;exact⟨j,j1,by simp only[aG,aJ];exact⟨by omega,j2.2⟩⟩
    .rintro⟨j,j1,j2⟩;simp only[aG,aJ]at j2;refine⟨j,j1,?_⟩;simp only[aG,aJ];refine⟨?_,j2.2⟩;rcases Nat.lt_or_ge k j with h |h
     .omega
     .have:j=k:=(by omega);subst this;rw[hb]at j2;simp at j2
 by_cases h2:i+2<=p.length
 .exact main (p.length -(i+2)) (i+2) (by omega) n (by omega)
 .obtain⟨n,rfl⟩:∃g,n=g+1:=⟨n -1,by omega⟩;have e:((List.range p.length).any λj=>decide (i+2<=j)&&UU p i j)=false:=by
   rw[Bool.eq_false_iff];intro h;rw[any_eq_true]at h;obtain⟨j,h1,h2⟩:=h;rw[List.mem_range]at h1;simp only[aG,aJ]at h2;omega
  rw[e];have d:decide (((i+2:Nat):Int)<(p.length:Int))=false:=by rw[dD];omega
  refine fJ ?_;simp only[jd,eG,d,ak]
theorem JS{p:U dP}(hl:p.length<=1000)(hn:2000<=n):iter (qP n (gD p)) n (0:Int)=some (bif (List.range p.length).any λi=>(List.range p.length).any λk=>decide (i+2<=k)&&UU p i k then .inr false else .inl ()):=by
 refine JP p.length _ () false (λ i hi=>?_) ?_ n (by omega)
 .have w2:i64.wrap ((i:Int)+2)=((i+2:Nat):Int):=by rw[dI (by omega) (by omega)];omega
  simp only[qP,eG,bZ hi,aj,w2,JR hl hn hi,aP i];cases (List.range p.length).any λk=>decide (i+2<=k)&&UU p i k<;>rfl
 .simp only[qP,eG,dX,ak]
theorem RX(p:U dP)(hn:2000<=n):wR n p=some (RS p):=by
 unfold wR RS;by_cases h4:p.length<4
 .have d1:decide ((p.length:Int)<4)=true:=by simp;omega
  have d2:decide (4<=p.length)=false:=by simp;omega
  rw[d1,d2];rfl
 .have d1:decide ((p.length:Int)<4)=false:=by simp;omega
  have d2:decide (4<=p.length)=true:=by simp;omega
  by_cases h60:p.length>60
  .have d3:decide ((p.length:Int)>60)=true:=(by simp;omega);have d4:decide (p.length<=60)=false:=(by simp;omega);rw[d1,d2,d3,d4];rfl
  .have d3:decide ((p.length:Int)>60)=false:=(by simp;omega);have d4:decide (p.length<=60)=true:=(by simp;omega);have g:br (gD p) (((0:Nat):Int)+0)=some (jr p 0):=by
    have:=bJ (l:=gD p) (i:=0) (by rw[eG];omega);rw[zW]at this;exact this
   have i0:co 0 (gD p).length=true:=by
    have:=bE (i:=0) (n:=(gD p).length) (by rw[eG];omega);simpa using this
   rw[d1,d2,d3,d4];simp only[ak,af,BP (n:=n) (p:=p) (by omega) (by omega),JQ (n:=n) (p:=p) (by omega) hn,Bool.true_and];cases (List.range p.length).any (Ks p)with
   |true=>rfl
   |false=>
    simp only[ak,dU,JS (n:=n) (p:=p) (by omega) hn];cases (List.range p.length).any λi=>(List.range p.length).any λk=>decide (i+2<=k)&&UU p i k with
    |true=>rfl
    |false=>
     simp only[ak,dU,i0,aj,g,af,nQ];rfl
def Ct(p:U dP)(x:Int):U Int:=((gD p).filter λs=>!uc s&&(decide (min s.lj s.lP<=x)&&decide (x<max s.lj s.lP))).map (·.pp)
def El(x0 x1:Int):U Int->U ax
 |a::b::l=>⟨x0,a,x1,b⟩::El x0 x1 l
 |_=>[]
def m6(p:U dP):U Int:=yp (p.map (·.x))
def Y3(p:U dP):U ax:=(jo (λ a b=>El a b (kD m9 (Ct p a))) (m6 p)).flatten
def yV(p:U dP):U ax×Int:=if RS p=true then(if (Y3 p).length>200 then([],6)else(Y3 p,0))else([],10)
theorem aiI{p:U dP}(h:RS p=true):4<=p.length/\p.length<=60:=by
 unfold RS at h;simp only[aG,aJ]at h;exact⟨h.1,h.2.1⟩
theorem GQ{p:U dP}(hl:p.length<=1000)(hn:2000<=n):iter (mq p) n ((0:Int),([]:U Int))=some (p.map (·.x)):=by
 have:=fO (l:=p) (step:=mq p) (λ i (s:List Int)=>((i:Int),s)) (λ r s=>s++[r.x]) (λ s=>s) (λ i s=>s.length<=i)
  (λ i hi s hs=>?_) (λ s hs=>by simp[mq]) n (by omega) [] (aC _)
 .rw[show ((0:Nat):Int)=0 from rfl]at this;rw[this];have gen:∀(ys:U dP)(s:U Int),ys.foldl (λ s r=>s++[r.x]) s=s++ys.map (·.x):=by
   intro ys
   induction ys with
   |nil=>intro s;simp
   |cons y ys ih=>intro s;rw[foldl_cons,ih];simp
  congr 1;simpa using gen p []
 .have ap:bP s.length s.length (sub ([(p[i]).x]:U Int) 0 1).length 1 8=true:=cu (n:=1);simp only[mq,bZ hi,aj,bf hi,af,ap,dY,aD];refine⟨?_,by simp;omega⟩;rw[bA (by omega)];rfl
theorem GR{p:U dP}(hl:p.length<=1000)(hn:2000<=n)(es:U Int)(i:Nat)(hi:i<es.length):iter (mD ((),es) (gD p) (i:Int)) n ((0:Int),([]:U Int))=some (Ct p es[i]):=by
 have:=fO (l:=gD p) (step:=mD ((),es) (gD p) (i:Int)) (λ i (s:List Int)=>((i:Int),s)) (λ r s=>bif !uc r&&(decide (min r.lj r.lP<=es[i])&&decide (es[i] <max r.lj r.lP))then s++[r.pp]else s) (λ s=>s) (λ i s=>s.length<=i)
  (λ j hj s hs=>?_) (λ s hs=>by simp[mD]) n (by rw[eG];omega) [] (aC _)
 .rw[show ((0:Nat):Int)=0 from rfl]at this;rw[this];have gen:∀(ys:U jN)(s:U Int),ys.foldl (λ s r=>bif !uc r&&(decide (min r.lj r.lP<=es[i])&&decide (es[i] <max r.lj r.lP))then s++[r.pp]else s) s=s++(ys.filter λs=>!uc s&&(decide (min s.lj s.lP<=es[i])&&decide (es[i] <max s.lj s.lP))).map (·.pp):=by
   intro ys
   induction ys with
   |nil=>intro s;simp
   |cons y ys ih=>
    intro s;rw[foldl_cons,ih,List.filter_cons];cases !uc y&&(decide (min y.lj y.lP<=es[i])&&decide (es[i] <max y.lj y.lP))<;>simp
  congr 1;exact gen (gD p) []
 .rw[eG]at hj;have g:br (gD p) (((0:Nat):Int)+(j:Int))=some (gD p)[j]:=bJ (by rw[eG];exact hj);have ap:bP s.length s.length (sub ([((gD p)[j]'(by rw[eG];exact hj)).pp]:U Int) 0 1).length 1 8=true:=cu (n:=1);generalize hr:(gD p)[j]'(by rw[eG];exact hj)=r at*;simp only[mD,eG,bZ hj,aj,bE hj,g,af,nQ,bE hi,bJ hi,Cs,ap,dY,aD,aP j];cases uc r<;>cases decide (min r.lj r.lP<=es[i])<;>cases decide (es[i] <max r.lj r.lP)<;>refine⟨rfl,?_⟩<;>simp<;>omega
theorem acS(x0 x1:Int):∀l:U Int,(El x0 x1 l).length<=l.length
 |[]=>by simp[El]
 |[_]=>by simp[El]
 |a::b::l=>by have:=acS x0 x1 l;simp only[El,bn];omega
theorem GU(es:U Int)(i:Nat)(hi:i+1<es.length)(he:es.length<=10000)(w2 r8:U Int)(hw:w2.length=r8.length)(hr:r8.length<=1000)(ab:U ax)(ho:ab.length<=10000000)(hn:2000<=n):
 iter (jH ((),es) (i:Int) w2 r8) n ((0:Int),ab)=some (ab++El (es[i]'(by omega)) es[i+1] r8):=by
 have main:∀(m k:Nat)(ab:U ax),k+m=r8.length->ab.length<=10000000+k->∀f,m<f->iter (jH ((),es) (i:Int) w2 r8) f ((k:Int),ab)=some (ab++El (es[i]'(by omega)) es[i+1] (r8.drop k)):=by
  intro m
  induction m using Nat.strongRecOn with
  |ind m ih=>
   intro k ab hk hko f hf;obtain⟨f,rfl⟩:∃g,f=g+1:=⟨f -1,by omega⟩;have w1:i64.wrap ((k:Int)+1)=((k+1:Nat):Int):=bA (by omega);have w3:i64.wrap ((k:Int)+2)=((k+2:Nat):Int):=(by rw[dI (by omega) (by omega)];omega);have w4:i64.wrap ((i:Int)+1)=((i+1:Nat):Int):=bA (by omega);by_cases h2:k+1<r8.length
   .have d:decide (((k+1:Nat):Int)<(w2.length:Int))=true:=(by rw[hw];exact bZ h2);have ap:bP ab.length ab.length (sub ([(ax.mk (es[i]'(by omega)) (r8[k]'(by omega)) es[i+1] r8[k+1])]:U ax) 0 1).length 1 32=true:=cu (n:=1);have st:jH ((),es) (i:Int) w2 r8 ((k:Int),ab)=some (.inl (((k+2:Nat):Int),ab++[ax.mk (es[i]'(by omega)) (r8[k]'(by omega)) es[i+1] r8[k+1]])):=by
     simp only[jH,w1,w3,w4,d,aj,bE (show i<es.length by omega),bJ (show i<es.length by omega),af,bE (show k<w2.length by omega),bJ (show k<r8.length by omega),bE hi,bJ hi,bE (show k+1<w2.length by omega),bJ h2,ap,dY,aD];rfl
    have dr:r8.drop k=r8[k]::r8[k+1]::r8.drop (k+2):=(by rw[List.drop_eq_getElem_cons (by omega),List.drop_eq_getElem_cons h2]);rw[kM st,ih (m -2) (by omega) (k+2) _ (by omega) (by rw[dM,length_singleton];omega) f (by omega),dr];simp[El]
   .have d:decide (((k+1:Nat):Int)<(w2.length:Int))=false:=(by rw[hw,dD];omega);have e:El (es[i]'(by omega)) es[i+1] (r8.drop k)=[]:=by
     have hl:(r8.drop k).length<=1:=by rw[length_drop];omega
     match r8.drop k,hl with
     |[],_=>rfl
     |[_],_=>rfl
     |_::_::_,h=>simp at h
    rw[e,append_nil];refine fJ ?_;simp only[jH,w1,d,ak,aD,aj]
 have:=main r8.length 0 ab (by omega) (by omega) n (by omega);rw[show ((0:Nat):Int)=0 from rfl,List.drop_zero]at this;exact this
theorem ape(p:U dP):(m6 p).length<=p.length:=by
 have h:=pu (kD m9 (p.map (·.x)));rw[dH,length_map]at h;exact h
theorem Y4(p:U dP)(x:Int):(Ct p x).length<=p.length:=by
 unfold Ct;rw[length_map,<- eG p];exact length_filter_le _ _
theorem JU{α:Type}(b:Nat):∀l:U (List α),(∀ x∈l,x.length<=b)->l.flatten.length<=l.length*b
 |[],_=>by simp
 |x::l,h=>by
  have h1:=JU b l λy hy=>h y (fF _ hy);have h2:=h x List.mem_cons_self;rw[List.flatten_cons,dM,bn,Nat.add_mul];omega
theorem GV{p:U dP}(hl:p.length<=1000)(hn:2000<=n):
 iter (mE n ((),m6 p) (gD p)) n ((0:Int),([]:U ax))=some (Y3 p):=by
 have hx:=ape p;obtain⟨p1,p2⟩:=tZ (λ a b=>El a b (kD m9 (Ct p a))) (m6 p)
 let C:=jo (λ a b=>El a b (kD m9 (Ct p a))) (m6 p)
 have hC:C.length=(m6 p).length -1:=p1;have cl:∀c∈C,c.length<=1000:=by
  intro c hc;obtain⟨i,hi,rfl⟩:=mem_iff_getElem.1 hc;have:=p2 i (by omega) hi;show(C[i]).length<=1000;rw[show C[i]=_ from this];have h1:=acS (m6 p)[i] (m6 p)[i+1] (kD m9 (Ct p (m6 p)[i]));rw[dH]at h1;have h2:=Y4 p (m6 p)[i];omega
 have bl:∀i,((C.take i).flatten).length<=1000*1000:=by
  intro i;have h1:=JU 1000 (C.take i) λx hx=>cl x (List.mem_of_mem_take hx);have h2:(C.take i).length<=1000:=by rw[length_take];omega
  exact Nat.le_trans h1 (Nat.mul_le_mul_right _ h2)
 have main:=lZ (step:=mE n ((),m6 p) (gD p)) (λ i=>((i:Int),(C.take i).flatten)) C.length (Y3 p) (λ i hi=>?_) ?_ n (by omega)
 .simpa using main
 .have hi2:i+1<(m6 p).length:=by omega
  have hw:i64.wrap ((((m6 p).length:Nat):Int) -1)=(C.length:Int):=by rw[dI (by omega) (by omega)];omega
  have bi:=bl i;have cr:=Y4 p (m6 p)[i];have e:C.take (i+1)=C.take i++[El (m6 p)[i] (m6 p)[i+1] (kD m9 (Ct p (m6 p)[i]))]:=by
   rw[fD hi];congr 2;exact p2 i hi2 hi
  simp only[mE,hw,bZ hi,aj,length_nil,aD,GR hl hn (m6 p) i (by omega),af];rw[nP (by omega) (by omega)];simp only[af];rw[GU (m6 p) i hi2 (by omega) (Ct p (m6 p)[i]) (kD m9 (Ct p (m6 p)[i])) (by rw[dH]) (by rw[dH];omega) _ (by omega) hn];simp only[af,aD,aj,e,List.flatten_append,List.flatten_cons,List.flatten_nil,append_nil,aP i]
 .have hw:i64.wrap ((((m6 p).length:Nat):Int) -1)=(((m6 p).length:Nat):Int) -1:=dI (by omega) (by omega);have d:decide ((C.length:Int)<(((m6 p).length:Nat):Int) -1)=false:=by rw[dD];omega
  simp only[mE,hw,d,ak,aD,aj,List.take_length];rfl
theorem PI(p:U dP)(hn:2000<=n):vk n p=some (yV p):=by
 unfold vk yV;rw[RX p hn];simp only[af];cases hr:RS p with
 |false=>rfl
 |true=>
  have⟨_,hl⟩:=aiI hr;simp only[Bool.not_true,ak,length_nil,aD,aj,GQ (n:=n) (p:=p) (by omega) hn,af,if_true];rw[nP (by rw[length_map];omega) (by rw[length_map];omega)];simp only[af,dH,aD,aj];rw[qa (by rw[dH,length_map];omega) (by rw[dH,length_map];omega)];simp only[af,BP (n:=n) (p:=p) (by omega) (by omega)];have hE:gT (kD m9 (p.map (·.x)))=m6 p:=rfl;rw[hE,GV (by omega) hn];simp only[af,bK,aD,aj];by_cases qT:(Y3 p).length>200
  .have:decide ((((Y3 p).length:Nat):Int)>200)=true:=(by simp;omega);rw[this,aT qT];rfl
  .have:decide ((((Y3 p).length:Nat):Int)>200)=false:=(by simp;omega);rw[this,aW qT];rfl
theorem agl(p:U dP):(yV p).1.length<=200:=by
 unfold yV;split
 .split
  .simp
  .simp;omega
 .simp
def DS(a b:ax):Int:=bif(!ef a || !ef b)then -1 else max (max 0 (i64.wrap ((max a.x0 b.x0) -(min a.x1 b.x1)))) (i64.wrap ((max a.y0 b.y0) -(min a.y1 b.y1)))
theorem agm(a b:ax):LR a b=some (DS a b):=by
 unfold LR DS;rw[jK,jK];simp only[af];cases ef a<;>cases ef b<;>rfl
def yf(a b:U ax):Int×Bool:=
 bif(decide (a=[]) || (decide (b=[]) || (!cz a || !cz b)))then(0,false)else(a.foldl (λ m x=>b.foldl (λ m y=>min m (DS x y)) m) 1048576,true)
theorem abf{b:U ax}(hb:b.length<1099511627776)(hn:b.length<n)(x:ax)(m:Int):iter (Ea b x) n (m,(0:Int))=some (b.foldl (λ m y=>min m (DS x y)) m):=by
 have:=lC (l:=b) (step:=Ea b x) (λ i (s:Int)=>(s,(i:Int))) (λ y m=>min m (DS x y)) (λ s=>s) (λ i hi s=>?_) (λ s=>by simp[Ea]) n hn m
 .exact this
 .have hi':decide ((i:Int)<(b.length:Int))=true:=by simpa using hi
  simp only[Ea,hi',aj,bf hi,af,agm];rw[bA (by omega)]
theorem alx{a b:U ax}(ha:a.length<=900)(hb:b.length<=900)(hn:1000<=n):YJ n a b=some (yf a b):=by
 unfold YJ yf;have z:∀l:U ax,(((l.length:Int))==0)=decide (l=[]):=λl=>by cases l<;>simp<;>omega
 rw[z a,z b,jq (by omega) (by omega) hn,jq (by omega) (by omega) hn];have loop:(iter (Eb n a b) n ((1048576:Int),(0:Int)))=some (a.foldl (λ m x=>b.foldl (λ m y=>min m (DS x y)) m) 1048576):=by
  have:=lC (l:=a) (step:=Eb n a b) (λ i (s:Int)=>(s,(i:Int))) (λ x m=>b.foldl (λ m y=>min m (DS x y)) m) (λ s=>s) (λ i hi s=>?_) (λ s=>by simp[Eb]) n (by omega) 1048576
  .exact this
  .have hi':decide ((i:Int)<(a.length:Int))=true:=(by simpa using hi);simp only[Eb,hi',aj,bf hi,af];rw[abf (by omega) (by omega),af,bA (by omega)]
 simp only[af,loop];cases decide (a=[])<;>cases decide (b=[])<;>cases cz a<;>cases cz b<;>rfl
def N6:gI:=gI.mk 0 0 [] []
def dw(land:U gI)(id:Int):gI×Bool:=match land.find? λt=>t.id==id with
 |some t=>(t,true)
 |none=>(N6,false)
theorem Y5{α:Type}(p:α->Bool)(l:U α):(∃ (i:Nat) (h:i<l.length),jA p l=some i/\l.find? p=some l[i])\/(jA p l=none/\l.find? p=none):=by
 rcases Fu p l with ⟨i,hi,h1,h2,h3⟩ |⟨h1,h2⟩
 .refine .inl ⟨i,hi,h1,?_⟩;rw[List.find?_eq_some_iff_getElem];exact⟨h2,i,hi,rfl,λj hj=>by simpa using h3 j hj⟩
 .refine .inr ⟨h1,?_⟩;rw[List.find?_eq_none];intro x hx;rw[h2 x hx];simp
def Nb(t:gI)(id d:Int)(u:gI):Bool:=(yf t.area u.area).2&&(decide ((yf t.area u.area).1<=d)&&(u.id !=id))
def BQ(land:U gI)(t:gI)(id d:Int):U Int:=(land.filter λu=>Nb t id d u).map (·.id)
def Y6(land:U gI)(id d:Int):U Int:=
 bif(dw land id).2 then yp (BQ land (dw land id).1 id d)else []
theorem Y7{land:U gI}(hl:land.length<10995116277)(hn:land.length<n):iter (zQ land) n ((0:Int),([]:U (List ax)))=some (land.map (·.area)):=by
 have:=lZ (step:=zQ land) (λ i=>((i:Int),(land.take i).map (·.area))) land.length (land.map (·.area)) (λ i hi=>?_) ?_ n hn
 .simpa using this
 .have hi':decide ((i:Int)<(land.length:Int))=true:=by simpa using hi
  have ap:bP ((land.take i).map (·.area)).length ((land.take i).map (·.area)).length (sub ([land[i].area]:U (List ax)) 0 1).length 1 24=true:=by
   refine cu (n:=1) ?_ ?_
   .rw[length_map,length_take];omega
   .rw[length_map,length_take];simp only[maxLen];omega
  simp only[zQ,hi',aj,bf hi,af,ap,dY,aD];rw[bA (by omega),fD hi,map_append];rfl
 .simp[zQ]
theorem abg{land:U gI}(h:∀t∈land,t.area.length<=900)(id:Int):(dw land id).1.area.length<=900:=by
 unfold dw;split
 .rename_i t ht;exact h t (List.mem_of_find?_eq_some ht)
 .simp[N6]
theorem aiK{land:U gI}{id d:Int}(h:∀t∈land,t.area.length<=900)(hF:Bw n land id=some (dw land id))(hl:land.length<=100)(hn:1000<=n):Wt n land id d=some (Y6 land id d):=by
 unfold Wt Y6;rw[hF];simp only[af];cases hf:(dw land id).2 with
 |false=>rfl
 |true=>
  have ht:=abg h id;simp only[Bool.not_true,ak,length_nil,aD,aj,Y7 (land:=land) (n:=n) (by omega) (by omega),af];have key:iter (zR n land id d (dw land id) (land.map (·.area))) n ((0:Int),([]:U Int))=some (BQ land (dw land id).1 id d):=by
   have:=fO (l:=land) (step:=zR n land id d (dw land id) (land.map (·.area))) (λ i (s:List Int)=>((i:Int),s)) (λ u s=>bif Nb (dw land id).1 id d u then s++[u.id]else s) (λ s=>s) (λ i s=>s.length<=i)
    (λ i hi s hs=>?_) (λ s hs=>by simp[zR]) n (by omega) [] (aC _)
   .rw[show ((0:Nat):Int)=0 from rfl]at this;rw[this];have gen:∀(ys:U gI) (s:U Int),ys.foldl (λ s u=>bif Nb (dw land id).1 id d u then s++[u.id]else s) s=s++BQ ys (dw land id).1 id d:=by
     intro ys
     induction ys with
     |nil=>intro s;simp[BQ]
     |cons y ys ih=>
      intro s;simp only[foldl_cons,ih,BQ];cases hy:Nb (dw land id).1 id d y<;>simp[hy]
    rw[gen];simp
   .have hlm:(land.map (·.area)).length=land.length:=(by simp);have hi':decide ((i:Int)<(((land.map (·.area)).length:Nat):Int))=true:=(by rw[hlm];simpa using hi);have ib:co (i:Int) (land.map (·.area)).length=true:=bE (by omega);have g:br (land.map (·.area)) (((0:Nat):Int)+(i:Int))=some land[i].area:=(by rw[Bu];simp[hi]);have hu:=h _ (getElem_mem hi);have ap:bP s.length s.length (sub ([land[i].id]:U Int) 0 1).length 1 8=true:=cu (n:=1);have gp:YJ n (dw land id).1.area land[i].area=some (yf (dw land id).1.area land[i].area):=alx ht hu hn;simp only[zR,hi',aj,ib,g,af,gp,bf hi];have e:((bif (yf (dw land id).1.area land[i].area).2 then(bif (decide ((yf (dw land id).1.area land[i].area).1<=d))then some (land[i].id !=id)else some false)else some false):J Bool)=some (Nb (dw land id).1 id d land[i]):=by
     unfold Nb;cases (yf (dw land id).1.area land[i].area).2<;>cases decide ((yf (dw land id).1.area land[i].area).1<=d)<;>rfl
    rw[e];simp only[af];cases Nb (dw land id).1 id d land[i]with
    |true=>
     simp only[aj,ap,dY,aD,af];refine⟨?_,by simp;omega⟩;rw[bA (by omega)];rfl
    |false=>
     simp only[ak,aD,aj,af];exact⟨by rw[bA (by omega)],by omega⟩
  have hlen:(BQ land (dw land id).1 id d).length<=100:=by
   unfold BQ;rw[length_map];exact Nat.le_trans (length_filter_le _ _) hl
  rw[key];simp only[af,aD,aj];rw[nP (by omega) (by omega)];simp only[af,dH,aD,aj];rw[qa (by rw[dH];omega) (by rw[dH];omega)];simp only[af,bK,aD,aj];rfl
def arj(t:bT)(name:ByteArray):Int:=match t.rows.find? λe=>ByteArray.toList e.name==ByteArray.toList name with
 |some e=>e.n
 |none=>t.sk
theorem Y8{α:Type}(p:α->Bool)(l:U α):(∃ (i:Nat) (h:i<l.length),zI p l=(i:Int)/\l.find? p=some l[i])\/(zI p l= -1/\l.find? p=none):=by
 rcases Y5 p l with ⟨i,hi,h1,h2⟩ |⟨h1,h2⟩
 .exact .inl ⟨i,hi,by simp[zI,h1],h2⟩
 .exact .inr ⟨by simp[zI,h1],h2⟩
def anJ:U ByteArray:=[⟨#[104,111,109,101]⟩,⟨#[115,104,111,112]⟩,⟨#[119,111,114,107]⟩,⟨#[112,97,114,107]⟩,⟨#[112,108,97,110,116]⟩,⟨#[104,97,108,108]⟩]
def nameOf(use:Int):J ByteArray:=br anJ use
theorem agn(l:U Int):(yp l).length<=l.length:=by
 unfold yp;have:=pu (kD (λ a b=>decide (a<b)) l)
 rwa [dH]at this
theorem PK{V O:Type}{step:V->J (V⊕O)}(R:Nat->V->Prop)(N:Nat)(Q:O->Prop)(h:∀i v,i<N->R i v->∃v',step v=some (.inl v')/\R (i+1) v')(hN:∀v,R N v->∃o,step v=some (.inr o)/\Q o):
 ∀n,N<n->∀v,R 0 v->∃o,iter step n v=some o/\Q o:=by
 have main:∀k i n v,i+k=N->k<n->R i v->∃o,iter step n v=some o/\Q o:=by
  intro k
  induction k with
  |zero=>
   intro i n v hi hn hR;obtain⟨m,rfl⟩:∃m,n=m+1:=⟨n -1,by omega⟩;have:i=N:=(by omega);subst this;have⟨o,h1,h2⟩:=hN v hR;exact⟨o,fJ h1,h2⟩
  |succ k ih=>
   intro i n v hi hn hR;obtain⟨m,rfl⟩:∃m,n=m+1:=⟨n -1,by omega⟩;obtain⟨v',h1,h2⟩:=h i v (by omega) hR;obtain⟨o,h3,h4⟩:=ih (i+1) m v' (by omega) (by omega) h2;exact⟨o,by rw[kM h1,h3],h4⟩
 intro n hn v hR;exact main N 0 n v (by omega) hn hR
def Cu(z:dV):U ax:=if (yV z.corners).2=0 then(yV z.corners).1 else []
theorem aiL(z:dV):(Cu z).length<=200:=by
 unfold Cu;split
 .exact agl _
 .simp
theorem UX(z:dV)(hn:2000<=n):yN n z=some (Cu z):=by
 unfold yN Cu;rw[PI _ hn];simp only[af,bK,aD,aj];by_cases h:(yV z.corners).2=0
 .have:((yV z.corners).2 !=0)=false:=by simp[h]
  rw[this,aT h];rfl
 .have:((yV z.corners).2 !=0)=true:=by simp[h]
  rw[this,aW h];rfl
def Gx(a b:ax):ax:=⟨max a.x0 b.x0,max a.y0 b.y0,min a.x1 b.x1,min a.y1 b.y1⟩
theorem PL(a:ax):zi a=some (bif ef a then(a,true)else(⟨0,0,0,0⟩,false)):=by
 unfold zi;rw[jK];simp only[af,Cs]
theorem zY(a b:ax):uq a b=some (bif ef a&&(ef b&&ef (Gx a b))then(Gx a b,true)else(⟨0,0,0,0⟩,false)):=by
 unfold uq;rw[jK,jK];simp only[af,Cs];rw[show ax.mk (max a.x0 b.x0) (max a.y0 b.y0) (min a.x1 b.x1) (min a.y1 b.y1)=Gx a b from rfl,PL];simp only[af];generalize ef (Gx a b)=c;cases ef a<;>cases ef b<;>cases c<;>rfl
def Lz(r:ax):Int:=i64.wrap (i64.wrap (r.x1 -r.x0)*i64.wrap (r.y1 -r.y0))
theorem Em{r:ax}(h:ef r=true):zP r=some (Lz r):=by
 unfold zP;rw[PL,h];rfl
def Y9(x:ax)(n:Int)(y:ax):Int:=bif ef x&&(ef y&&ef (Gx x y))then i64.wrap (n+Lz (Gx x y))else n
def FR(a b:U ax):Int:=a.foldl (λ n x=>b.foldl (Y9 x) n) 0
theorem apf{α β:Type}(c:Bool)(a:α)(u v:β):(bif c then(a,u)else(a,v)).1=a:=by cases c<;>rfl
theorem JV(b:U ax)(x:ax)(hb:b.length<=1000)(hn:2000<=n)(m u v:Int):∃o,iter (qQ n b x) n (m,(0:Int),u,v)=some o/\o.1=b.foldl (Y9 x) m:=by
 refine PK (λ i (w:Int×Int×Int×Int)=>w.2.1=(i:Int)/\w.1=(b.take i).foldl (Y9 x) m) b.length (λ (o:Int×Int×Int)=>o.1=b.foldl (Y9 x) m) (λ i w hi hR=>?_) (λ w hR=>?_) n (by omega) _ ⟨rfl,rfl⟩
 .obtain⟨w1,w2,w3,w4⟩:=w;obtain⟨h1,h2⟩:=hR;simp only at h1 h2;subst h1;have e:(b.take (i+1)).foldl (Y9 x) m=Y9 x w1 b[i]:=by rw[fD hi,List.foldl_append,<- h2];rfl
  simp only[qQ,bZ hi,aj,bf hi,af,zY];have e0:Y9 x w1 b[i]=bif ef x&&(ef b[i]&&ef (Gx x b[i]))then i64.wrap (w1+Lz (Gx x b[i]))else w1:=rfl;rw[e0]at e;cases hc:ef x&&(ef b[i]&&ef (Gx x b[i]))with
  |false=>
   rw[hc]at e;simp only[ak,Bool.not_false,aj,af];exact⟨_,rfl,bA (by omega),e.symm⟩
  |true=>
   rw[hc]at e;have hcc:ef (Gx x b[i])=true:=by
    revert hc;generalize ef (Gx x b[i])=c;cases c
    .cases ef x<;>cases ef b[i]<;>simp
    .simp
   simp only[aj,Bool.not_true,ak,Em hcc,af,kT];rw[show ∀u v:Int,sub [u,v] 0 2=[u,v]from λ_ _=>rfl,YT _ _ (by omega)];simp only[af,Cs];simp only[show ∀u v:Int,be [u,v].length 2=true from λ_ _=>rfl,aj,af];refine⟨_,rfl,aP i,?_⟩;rw[e];exact apf _ _ _ _
 .obtain⟨w1,w2,w3,w4⟩:=w;obtain⟨h1,h2⟩:=hR;simp only at h1 h2;subst h1;simp only[qQ,dX,ak];exact⟨_,rfl,by rw[h2,List.take_length]⟩
theorem RY(a b:U ax)(ha:a.length<=1000)(hb:b.length<=1000)(hn:2000<=n):∃q,wS n a b=some (FR a b,q):=by
 unfold wS;obtain⟨o,h1,h2⟩:=PK (step:=qR n a b) (λ i (w:Int×Int×Int×Int)=>w.2.1=(i:Int)/\w.1=(a.take i).foldl (λ n x=>b.foldl (Y9 x) n) 0) a.length (λ (o:Int×Int×Int)=>o.1=FR a b) (λ i w hi hR=>by
  obtain⟨w1,w2,w3,w4⟩:=w;obtain⟨h1,h2⟩:=hR;simp only at h1 h2;subst h1;have⟨o,g1,g2⟩:=JV (n:=n) b a[i] hb hn w1 w3 w4;obtain⟨o1,o2,o3⟩:=o;simp only[qR,bZ hi,aj,bf hi,af,g1];refine⟨_,rfl,bA (by omega),?_⟩;simp only at g2;rw[fD hi,List.foldl_append,<- h2,g2];rfl) (λ w hR=>by
  obtain⟨w1,w2,w3,w4⟩:=w;obtain⟨h1,h2⟩:=hR;simp only at h1 h2;subst h1;simp only[qR,dX,ak];exact⟨_,rfl,by rw[h2,List.take_length];rfl⟩) n (by omega) (0,0,1048576,0) ⟨rfl,rfl⟩
 obtain⟨o1,o2,o3⟩:=o;simp only at h2;subst h2;exact⟨_,by rw[h1];rfl⟩
def yX(zs:U dV)(area:U ax):U Int:=bif cz area then zs.map λz=>FR area (Cu z)else []
theorem RZ(p:cK)(a:U ax)(hz:p.zones.length<=100)(ha:a.length<=900)(hn:2000<=n):wT n p a=some (yX p.zones a):=by
 unfold wT yX;rw[jq (by omega) (by omega) (by omega)];simp only[af];cases cz a with
 |false=>rfl
 |true=>
  have:=fO (l:=p.zones) (step:=qU n p a) (λ i (s:List Int)=>((i:Int),s)) (λ z s=>s++[FR a (Cu z)]) (λ s=>s) (λ i s=>s.length<=i)
   (λ i hi s hs=>?_) (λ s hs=>by simp[qU]) n (by omega) [] (aC _)
  .rw[show ((0:Nat):Int)=0 from rfl]at this;simp only[Bool.not_true,ak,length_nil,aD,aj,this,af,bK];congr 1;have gen:∀(ys:U dV) (s:U Int),ys.foldl (λ s z=>s++[FR a (Cu z)]) s=s++ys.map λz=>FR a (Cu z):=by
    intro ys
    induction ys with
    |nil=>intro s;simp
    |cons y ys ih=>intro s;rw[foldl_cons,ih];simp
   exact gen p.zones []
  .have cl:=aiL p.zones[i];obtain⟨q,hq⟩:=RY (n:=n) a (Cu p.zones[i]) (by omega) (by omega) hn;have ap:bP s.length s.length (sub ([FR a (Cu p.zones[i])]:U Int) 0 1).length 1 8=true:=cu (n:=1);simp only[qU,bZ hi,aj,bf hi,af,UX _ hn,bK,aD,hq,ap,dY];refine⟨?_,by simp;omega⟩;rw[bA (by omega)];rfl
theorem Us(zs:U dV)(a:U ax):(yX zs a).length<=zs.length:=by
 unfold yX;cases cz a<;>simp
def yA(zs:U dV)(l:U Int)(m:Nat):Int:=(List.range m).foldl (λ (b:Int) i=>if (!((zs.getD i ⟨⟨#[]⟩,false,[]⟩).overlay)&&(decide (l.getD i 0>0)&&(decide (b<0) || decide (l.getD i 0>l.getD b.toNat 0))))=true then(i:Int)else b) (-1)
def FT(zs:U dV)(l:U Int)(i:Nat):Bool:=decide ((i:Int)=yA zs l l.length) || ((zs.getD i ⟨⟨#[]⟩,false,[]⟩).overlay&&decide (l.getD i 0>0))
def Fc(zs:U dV)(area:U ax):U ByteArray:=((List.range (yX zs area).length).filter (FT zs (yX zs area))).map λi=>(zs.getD i ⟨⟨#[]⟩,false,[]⟩).name
theorem Ut(zs:U dV)(l:U Int):∀m,yA zs l m= -1\/∃k:Nat,k<m/\yA zs l m=(k:Int)
 | 0=> .inl rfl
 |m+1=>by
  have ih:=Ut zs l m;unfold yA;rw[List.range_succ,List.foldl_append];simp only[foldl_cons,List.foldl_nil];split
  .exact .inr ⟨m,by omega,rfl⟩
  .rcases ih with h |⟨k,h1,h2⟩
   .exact .inl h
   .exact .inr ⟨k,by omega,h2⟩
theorem JW{α:Type}{l:U α}{i:Nat}(d:α)(h:i<l.length):l.getD i d=l[i]:=by simp[h]
theorem R4(p:cK)(l:U Int)(hl:l.length<=p.zones.length)(hz:p.zones.length<=100)(hn:2000<=n):iter (qV p l) n (((-1):Int),(0:Int))=some (yA p.zones l l.length):=by
 have main:=lZ (step:=qV p l) (λ i=>(yA p.zones l i,(i:Int))) l.length (yA p.zones l l.length) (λ i hi=>?_) (by simp[qV]) n (by omega)
 .exact main
 .have hz':i<p.zones.length:=by omega
  have e:yA p.zones l (i+1)=if (!(p.zones[i]).overlay&&(decide (l[i]>0)&&(decide (yA p.zones l i<0) || decide (l[i]>l.getD (yA p.zones l i).toNat 0))))=true then(i:Int)else yA p.zones l i:=by
   conv=>lhs;unfold yA
   rw[List.range_succ,List.foldl_append];simp only[foldl_cons,List.foldl_nil,JW _ hz',JW _ hi];rfl
  rw[e];rcases Ut p.zones l i with h |⟨k,h1,h2⟩
  .rw[h];have d:decide ((-1:Int)<0)=true:=rfl;simp only[qV,bZ hi,aj,bE hi,bJ hi,af,bf hz',d,Cs,Bool.true_or,Bool.and_true,aP i];cases (p.zones[i]).overlay<;>cases decide (l[i]>0)<;>rfl
  .rw[h2];have d:decide ((k:Int)<0)=false:=(by simp);have hk:k<l.length:=(by omega);simp only[qV,bZ hi,aj,bE hi,bJ hi,af,bf hz',d,Cs,Bool.false_or,ak,bE hk,bJ hk,Int.toNat_natCast,JW _ hk,aP i];cases (p.zones[i]).overlay<;>cases decide (l[i]>0)<;>cases decide (l[i]>l[k])<;>rfl
theorem aeh(p:cK)(a:U ax)(hz:p.zones.length<=100)(ha:a.length<=900)(hn:2000<=n):Ee n p a=some (Fc p.zones a):=by
 unfold Ee;have sl:=Us p.zones a;rw[RZ p a hz ha hn];simp only[af];rw[R4 p _ sl hz hn];simp only[af,length_nil,aD,aj];unfold Fc;generalize hL:yX p.zones a=l at*
 have:=fO (l:=List.range l.length) (step:=yO p l (yA p.zones l l.length)) (λ i (s:List ByteArray)=>((i:Int),s)) (λ i s=>bif FT p.zones l i then s++[(p.zones.getD i ⟨⟨#[]⟩,false,[]⟩).name]else s) (λ s=>s) (λ i s=>s.length<=i)
  (λ i hi s hs=>?_) (λ s hs=>by rw[List.length_range];simp[yO]) n (by rw[List.length_range];omega) [] (aC _)
 .rw[show ((0:Nat):Int)=0 from rfl]at this;simp only[this,af,bK,aD,aj];congr 1;have gen:∀(ys:U Nat)(s:U ByteArray),ys.foldl (λ s i=>bif FT p.zones l i then s++[(p.zones.getD i ⟨⟨#[]⟩,false,[]⟩).name]else s) s=s++(ys.filter (FT p.zones l)).map λi=>(p.zones.getD i ⟨⟨#[]⟩,false,[]⟩).name:=by
   intro ys
   induction ys with
   |nil=>intro s;simp
   |cons y ys ih=>
    intro s;rw[foldl_cons,ih,List.filter_cons];cases FT p.zones l y<;>simp
  exact gen (List.range l.length) []
 .rw[List.length_range]at hi;have hz':i<p.zones.length:=by omega
  rw[List.getElem_range];have ap:bP s.length s.length (sub ([(p.zones[i]).name]:U ByteArray) 0 1).length 1 16=true:=cu (n:=1);have hb:((i:Int)==yA p.zones l l.length)=decide ((i:Int)=yA p.zones l l.length):=by rw[fB];simp
  simp only[yO,bZ hi,aj,bE hi,bJ hi,af,bf hz',hb,Cs,ap,dY,aD,FT,JW _ hz',JW _ hi,aP i];cases decide ((i:Int)=yA p.zones l l.length)<;>cases (p.zones[i]).overlay<;>cases decide (l[i]>0)<;>refine⟨rfl,?_⟩<;>simp<;>omega
theorem apg(zs:U dV)(a:U ax):(Fc zs a).length<=zs.length:=by
 unfold Fc;rw[length_map];have h1:=length_filter_le (FT zs (yX zs a)) (List.range (yX zs a).length);rw[List.length_range]at h1;have:=Us zs a;omega
def lf(a b:ByteArray):Bool:=ByteArray.toList a==ByteArray.toList b
theorem vU{l:U ByteArray}{a:ByteArray}(hl:l.length<1099511627776)(hn:l.length<n):fP n l a=some (l.any (lf a)):=by
 unfold fP;have e:tH n l a=adU n (λ x=>ByteArray.toList a==ByteArray.toList x) l:=by kernel_rfl
 rw[e,Uj hl hn,af,uL];rfl
theorem q8{l:U ByteArray}{φ:(ByteArray×Unit)->J Bool}(p:ByteArray->Bool)(h:∀x∈l,φ (x,())=some (p x))(hl:l.length<1099511627776)(hn:l.length<n):fV n l φ=some (l.any p):=by
 unfold fV;have e:rM n l φ=xD n l φ:=by kernel_rfl
 rw[e,fT p h hl hn,af,uL]
def WC(r:bC)(zs:U ByteArray):Bool:=(decide (r.zones=[]) || r.zones.any λz=>zs.any (lf z))&&!(r.except.any λz=>zs.any (lf z))
theorem R5(r:bC)(zs:U ByteArray)(h1:r.zones.length<=100)(h2:r.except.length<=100)(h3:zs.length<=100)(hn:2000<=n):rZ n r zs=some (WC r zs):=by
 have hf:∀x:ByteArray,kI n x zs=some (zs.any (lf x)):=λx=>by unfold kI;rw[vU (by omega) (by omega)];rfl
 unfold rZ WC;rw[q8 (λ z=>zs.any (lf z)) (λ x _=>hf x) (by omega) (by omega),q8 (λ z=>zs.any (lf z)) (λ x _=>hf x) (by omega) (by omega)];simp only[af,Cs];have e:((r.zones.length:Int)==0)=decide (r.zones=[]):=by
  rw[fB,beq_iff_eq,aJ];constructor
  .intro h;exact List.length_eq_zero_iff.1 (by omega)
  .intro h;rw[h];rfl
 rw[e];cases decide (r.zones=[])<;>cases (r.zones.any λz=>zs.any (lf z))<;>cases (r.except.any λz=>zs.any (lf z))<;>rfl
def sF(zs:U ByteArray)(day:Int)(r:bC):Bool:=decide (r.from_<=day)&&((r.jj==0 || decide (day<r.jj))&&WC r zs)
def R6(rules:U bC)(zs:U ByteArray)(day:Int):U Nat:=(List.range rules.length).filter λi=>(rules[i]?).any (sF zs day)
abbrev aiM(r:bC):Prop:=r.zones.length<=100/\r.except.length<=100
theorem UY(p:cK)(zs:U ByteArray)(day:Int)(hr:∀r∈p.rules,aiM r)(hl:p.rules.length<=100)(h3:zs.length<=100)(hn:2000<=n):vo n p zs day=some ((R6 p.rules zs day).map λ(i:Nat)=>(i:Int)):=by
 unfold vo R6
 have:=fO (l:=List.range p.rules.length) (step:=tJ n p zs day) (λ i (s:List Int)=>((i:Int),s)) (λ i s=>bif(p.rules[i]?).any (sF zs day)then s++[(i:Int)]else s) (λ s=>s) (λ i s=>s.length<=i)
  (λ i hi s hs=>?_) (λ s hs=>by rw[List.length_range];simp[tJ]) n (by rw[List.length_range];omega) [] (aC _)
 .rw[show ((0:Nat):Int)=0 from rfl]at this;simp only[length_nil,aD,aj,this,af,bK];congr 1;have gen:∀(ys:U Nat)(s:U Int),ys.foldl (λ s (i:Nat)=>bif(p.rules[i]?).any (sF zs day)then s++[(i:Int)]else s) s=s++(ys.filter λi=>(p.rules[i]?).any (sF zs day)).map λ(i:Nat)=>(i:Int):=by
   intro ys
   induction ys with
   |nil=>intro s;simp
   |cons y ys ih=>
    intro s;rw[foldl_cons,ih,List.filter_cons];cases (p.rules[y]?).any (sF zs day)<;>simp
  exact gen (List.range p.rules.length) []
 .rw[List.length_range]at hi;rw[List.getElem_range];obtain⟨o1,o2⟩:=hr _ (getElem_mem hi);have ap:bP s.length s.length (sub ([(i:Int)]:U Int) 0 1).length 1 8=true:=cu (n:=1);have eg:(p.rules[i]?).any (sF zs day)=sF zs day p.rules[i]:=by rw[bX hi];rfl
  rw[eg];simp only[tJ,bZ hi,aj,bf hi,af,R5 _ zs o1 o2 h3 hn,Cs,ap,dY,aD,sF,aP i];cases decide ((p.rules[i]).from_<=day)<;>cases (p.rules[i]).jj==0<;>cases decide (day<(p.rules[i]).jj)<;>cases WC p.rules[i] zs<;>refine⟨rfl,?_⟩<;>simp<;>omega
def Za(p:d9):Bool:=decide (0<=p.side/\p.side<=3)&&(decide (0<=p.base/\p.base<=4096)&&(decide (0<=p.num/\p.num<=4096)&&decide (1<=p.den/\p.den<=4096)))
theorem anK(p:d9):Za p=true↔(0<=p.side/\p.side<=3)/\(0<=p.base/\p.base<=4096)/\(0<=p.num/\p.num<=4096)/\(1<=p.den/\p.den<=4096):=by simp only[Za,aG,aJ]
theorem UZ(a b c:Int):oI a b c=some (decide (b<=a/\a<=c)):=by
 unfold oI;by_cases h1:b<=a
 .have d:decide (b<=a)=true:=by simpa using h1
  rw[d,aj];congr 1;rw[fB];simp[h1]
 .have d:decide (b<=a)=false:=by simpa using h1
  rw[d,ak];congr 1;rw[fB];simp[h1]
theorem Zb(p:d9):BL p=some (Za p):=by
 unfold BL Za;simp only[UZ,af,Cs];generalize decide (0<=p.side/\p.side<=3)=a;generalize decide (0<=p.base/\p.base<=4096)=b;generalize decide (0<=p.num/\p.num<=4096)=c;cases a<;>cases b<;>cases c<;>rfl
theorem Cv{l:U d9}{φ:(d9×Unit)->J Bool}(p:d9->Bool)(h:∀x∈l,φ (x,())=some (p x))(hl:l.length<1099511627776)(hn:l.length<n):kX n l φ=some (l.any p):=by
 unfold kX;have e:tX n l φ=xD n l φ:=by kernel_rfl
 rw[e,fT p h hl hn,af,uL]
def FU(b:ax)(l:U d9):Bool:=ef b&&!(l.any λp=>!Za p)
theorem Zc(b:ax)(l:U d9)(hl:l.length<=1000)(hn:2000<=n):BM n b l=some (FU b l):=by
 unfold BM FU;rw[jK,Cv (λ p=>!Za p) (λ p _=>by show vv p=_;unfold vv;rw[Zb];rfl) (by omega) (by omega)];simp only[af,Cs];cases ef b<;>rfl
theorem aiN{a n:Int}(hn:0<n):(if Int.tmod a n<0 then Int.tdiv a n -1 else Int.tdiv a n)=a/n:=by
 have h1:=Int.mul_ediv_add_emod a n;have h2:=Int.emod_nonneg a (by omega:n≠0);have h3:=Int.emod_lt_of_pos a hn;rcases Int.le_total 0 a with h |h
 .have e1:Int.tmod a n=a%n:=Int.tmod_eq_emod_of_nonneg h;have e2:Int.tdiv a n=a/n:=Int.tdiv_eq_ediv_of_nonneg h;rw[e1,e2,aW (by omega)]
 .obtain⟨b,rfl⟩:∃b,a= -b:=⟨-a,by omega⟩;have hb:0<=b:=by omega
  have e1:Int.tmod (-b) n= -(b%n):=by rw[Int.neg_tmod,Int.tmod_eq_emod_of_nonneg hb]
  have e2:Int.tdiv (-b) n= -(b/n):=by rw[Int.neg_tdiv,Int.tdiv_eq_ediv_of_nonneg hb]
  have g1:=Int.mul_ediv_add_emod b n;have g2:=Int.emod_nonneg b (by omega:n≠0);have g3:=Int.emod_lt_of_pos b hn;rw[e1,e2];by_cases hm:b%n=0
  .rw[aW (by omega)];have:(-b)/n= -(b/n):=by
    refine(Int.ediv_eq_iff_of_pos hn).2 ?_;constructor
    .rw[Int.neg_mul,Int.mul_comm (b/n)];omega
    .rw[Int.neg_mul,Int.mul_comm (b/n)];omega
   omega
  .rw[aT (by omega)];have:(-b)/n= -(b/n) -1:=by
    refine(Int.ediv_eq_iff_of_pos hn).2 ?_;constructor
    .rw[Int.sub_mul,Int.neg_mul,Int.mul_comm (b/n)];omega
    .rw[Int.sub_mul,Int.neg_mul,Int.mul_comm (b/n)];omega
   omega
theorem PN{a n:Int}(hn:0<n)(ha: -4611686018427387904<=a/\a<=4611686018427387904):vw a n=some (a/n):=by
 have nz:(n !=0)=true:=by simp;omega
 have hb: -4611686018427387904<=a/n/\a/n<=4611686018427387904:=by
  constructor
  .rw[Int.le_ediv_iff_mul_le hn];have: -4611686018427387904*n<= -4611686018427387904:=(by omega);omega
  .rcases Int.le_total 0 a with h |h
   .have:=Int.ediv_le_self n h;omega
   .have:a/n<=0:=by
     have:=(Int.ediv_lt_iff_lt_mul (a:=a) (b:=1) hn).2 (by omega);omega
    omega
 have hf:=aiN (a:=a) hn;have ht: -4611686018427387904<=Int.tdiv a n/\Int.tdiv a n<=4611686018427387905:=by split at hf<;>omega
 unfold vw;simp only[nz,aj];rw[dI (x:=Int.tdiv a n),dI (x:=Int.tdiv a n -1),<- hf];by_cases h:Int.tmod a n<0
 .have d:decide (Int.tmod a n<0)=true:=by simpa using h
  rw[d,aT h];rfl
 .have d:decide (Int.tmod a n<0)=false:=by simpa using h
  rw[d,aW h];rfl
def Zd(b:ax)(side x y:Int):Int:=if side=0 then x -b.x0 else if side=1 then b.x1 -1 -x else if side=2 then y -b.y0 else b.y1 -1 -y
def ark(b:ax)(p:d9)(x y:Int):Int:=p.base+p.num*Zd b p.side x y/p.den
def wc(b:ax)(l:U d9)(x y:Int):Int:=l.foldl (λ h p=>min h (ark b p x y)) 4096
abbrev InG(x y:Int):Prop:=(0<=x/\x<1048576)/\(0<=y/\y<1048576)
theorem agq{b:ax}(hb:ef b=true){x y:Int}(h:InG x y)(side:Int): -1048576<=Zd b side x y/\Zd b side x y<=1048576:=by
 simp only[ef,aG,aJ]at hb;obtain⟨h1,h2⟩:=h;unfold Zd;split
 .omega
 .split
  .omega
  .split<;>omega
theorem aly{a d:Int}(ha:0<=a/\a<=4096)(hd: -1048576<=d/\d<=1048576): -4294967296<=a*d/\a*d<=4294967296:=by
 have h1:a*d<=a*1048576:=Int.mul_le_mul_of_nonneg_left hd.2 ha.1;have h2:a*(-1048576)<=a*d:=Int.mul_le_mul_of_nonneg_left hd.1 ha.1;omega
theorem alz{a n:Int}(hn:0<n)(ha: -4294967296<=a/\a<=4294967296): -4294967296<=a/n/\a/n<=4294967296:=by
 constructor
 .rw[Int.le_ediv_iff_mul_le hn];omega
 .rcases Int.le_total 0 a with h |h
  .have:=Int.ediv_le_self n h;omega
  .have:=(Int.ediv_lt_iff_lt_mul (a:=a) (b:=1) hn).2 (by omega);omega
theorem aei{b:ax}{l:U d9}{x y:Int}(hb:ef b=true)(hp:∀p∈l,Za p=true)(h:InG x y)(hl:l.length<=1000)(hn:2000<=n):KX n b l x y=some (wc b l x y):=by
 unfold KX xZ;have hr:=hb;simp only[ef,aG,aJ]at hr;obtain⟨h1,h2⟩:=h;rw[dI (x:=x -b.x0),dI (x:=b.x1 -1),dI (x:=b.x1 -1 -x),dI (x:=y -b.y0),dI (x:=b.y1 -1),dI (x:=b.y1 -1 -y)];simp only[af];have:=lC (l:=l) (step:=yR b l x y ⟨x -b.x0,b.x1 -1 -x,y -b.y0,b.y1 -1 -y⟩) (λ i (s:Int)=>(s,(i:Int))) (λ p s=>min s (ark b p x y)) (λ s=>s) (λ i hi s=>?_) (λ s=>by simp[yR]) n (by omega) 4096
 .rw[show ((0:Nat):Int)=0 from rfl]at this;rw[this];rfl
 .obtain⟨s1,s2,s3,s4⟩:=(anK _).1 (hp _ (getElem_mem hi));have ib:co (l[i]).side 4=true:=by simp[co];omega
  have g:br ([x -b.x0,b.x1 -1 -x,y -b.y0,b.y1 -1 -y]:U Int) (l[i]).side=some (Zd b (l[i]).side x y):=by
   have hs:(l[i]).side=0\/(l[i]).side=1\/(l[i]).side=2\/(l[i]).side=3:=(by omega);rcases hs with e |e |e |e<;>rw[e]<;>simp[br,Zd]
  have db:=agq hb ⟨h1,h2⟩ (l[i]).side;have mb:=aly s3 db;have dv:=alz (n:=(l[i]).den) (by omega) mb;simp only[yR,bZ hi,aj,bf hi,af,ib,g];rw[dI (x:=(l[i]).num*Zd b (l[i]).side x y),PN (by omega) (by omega)];simp only[af];rw[dI (x:=(l[i]).base+_),bA (by omega)];rfl
theorem agr(b:ax)(l:U d9):FU b l=true↔ef b=true/\∀p∈l,Za p=true:=by
 unfold FU;rw[aG,Bool.not_eq_true',any_eq_false];simp
def Ge(x:fK):Bool:=decide (x.z0<0) || (decide (x.z0>=x.z1) || (decide (x.z1>4096) || (decide (x.area=[]) || !cz x.area)))
def Ax(p:J fK×fK):Bool:=Ge p.2 || p.1.any λq=>decide (q.z1>p.2.z0) || (q.z1==p.2.z0&&decide (q.area=p.2.area))
def Cw(s:U fK):U (Option fK×fK):=(none::s.map some).zip s
def FV(s:U fK):Bool:=decide (s.length<=80)&&!((Cw s).any Ax)
theorem qw(s:U fK):(Cw s).length=s.length:=by simp[Cw]
theorem FW{s:U fK}{i:Nat}(h:i<(Cw s).length):(Cw s)[i]=(if h0:i=0 then none else some (s[i -1]'(by rw[qw]at h;omega)),s[i]'(by rw[qw]at h;exact h)):=by
 simp only[Cw,List.getElem_zip,Prod.mk.injEq,and_true];cases i with
 |zero=>simp
 |succ i=>simp
theorem Uu{s:U fK}(ha:∀x∈s,x.area.length<=900)(hn:1000<=n):JF n s=some (FV s):=by
 unfold JF FV;by_cases h80:s.length<=80
 .have d:decide ((s.length:Int)>80)=false:=by simp;omega
  have d2:decide (s.length<=80)=true:=by simpa using h80
  have z:∀l:U ax,(((l.length:Int))==0)=decide (l=[]):=λl=>by cases l<;>simp<;>omega
  have:=iL (l:=Cw s) (step:=BN n s) (λ i=>(i:Int)) Ax () (λ _=>false) (λ i hi=>?_) ?_ n (by rw[qw];omega)
  .rw[show ((0:Nat):Int)=0 from rfl]at this;rw[d,d2,this,<- RU];cases jA Ax (Cw s)<;>rfl
  .rw[FW];rw[qw]at hi;have hi':decide ((i:Int)<(s.length:Int))=true:=(by simpa using hi);have h1:=ha _ (getElem_mem hi);simp only[BN,hi',aj,bf hi,af,z,jq (n:=n) (l:=s[i].area) (by omega) (by omega) hn,Ax];rw[bA (by omega)];have b:((bif decide (s[i].z0<0)then some true else bif decide (s[i].z0>=s[i].z1)then some true else bif decide (s[i].z1>4096)then some true else bif decide (s[i].area=[])then some true else some (!cz s[i].area)):J Bool)=some (Ge s[i]):=by
    unfold Ge;cases decide (s[i].z0<0)<;>cases decide (s[i].z0>=s[i].z1)<;>cases decide (s[i].z1>4096)<;>cases decide (s[i].area=[])<;>rfl
   rw[b];simp only[af];cases Ge s[i]with
   |true=>simp[dm]
   |false=>
    by_cases h0:i=0
    .subst h0;have:((((0:Nat):Int))==0)=true:=rfl;simp only[this,aj,ak,dU,dif_pos,Option.any_none,Bool.or_false]
    .have e0:((i:Int)==0)=false:=(by simp;omega);have w:i64.wrap ((i:Int) -1)=((i -1:Nat):Int):=pF (by omega) (by omega);have h2:=ha _ (getElem_mem (show i -1<s.length by omega));simp only[e0,ak,w,bf (show i -1<s.length by omega),af,aiG (n:=n) (a:=s[i -1].area) (b:=s[i].area) (by omega) (by omega),h0,dif_neg,not_false_eq_true,Option.any_some,Bool.false_or];cases decide (s[i -1].z1>s[i].z0)with
     |true=>simp[dm]
     |false=>
      cases s[i -1].z1==s[i].z0 with
      |false=>simp[dm]
      |true=>cases decide (s[i -1].area=s[i].area)<;>simp[dm]
  .rw[qw];simp[BN]
 .have d:decide ((s.length:Int)>80)=true:=by simp;omega
  have d2:decide (s.length<=80)=false:=by simpa using h80
  rw[d,d2];rfl
structure anL(x:fK):Prop where
 lo:0<=x.z0
 lt:x.z0<x.z1
 hi:x.z1<=4096
 ne:x.area≠[]
 rt:cz x.area=true
def arl(s:U fK):Prop:=∀i (h:i+1<s.length),s[i].z1<=s[i+1].z0/\¬(s[i].z1=s[i+1].z0/\s[i].area=s[i+1].area)
theorem agt(x:fK):Ge x=false↔anL x:=by
 unfold Ge;simp only[Bool.or_eq_false_iff,dD,Bool.not_eq_false'];constructor
 .rintro⟨h1,h2,h3,h4,h5⟩;exact⟨by omega,by omega,by omega,h4,h5⟩
 .rintro⟨h1,h2,h3,h4,h5⟩;exact⟨by omega,by omega,by omega,h4,h5⟩
theorem Ze(s:U fK):FV s=true↔s.length<=80/\(∀ x∈s,anL x)/\arl s:=by
 unfold FV;rw[aG,aJ,Bool.not_eq_true',any_eq_false];refine and_congr_right λ_=>?_;constructor
 .intro h;have key:∀i (hi:i<s.length),Ax ((Cw s)[i]'(by rw[qw];exact hi))=false:=λi hi=>by
   have:=h _ (getElem_mem (show i<(Cw s).length by rw[qw];exact hi));simpa using this
  refine⟨λ x hx=>?_,λi hi=>?_⟩
  .obtain⟨i,hi,rfl⟩:=mem_iff_getElem.1 hx;have:=key i hi;rw[FW]at this;unfold Ax at this;rw[Bool.or_eq_false_iff]at this;exact(agt _).1 this.1
  .have:=key (i+1) hi;rw[FW]at this;unfold Ax at this;rw[Bool.or_eq_false_iff]at this;have h2:=this.2;simp only[Nat.succ_ne_zero,dif_neg,not_false_eq_true,Option.any_some,Nat.add_sub_cancel,Bool.or_eq_false_iff,dD,Bool.and_eq_false_iff,beq_eq_false_iff_ne]at h2;refine⟨by omega,λ⟨e1,e2⟩=>?_⟩;rcases h2.2 with h3 |h3
   .exact h3 e1
   .exact h3 e2
 .rintro⟨h1,h2⟩ p hp;obtain⟨i,hi,rfl⟩:=mem_iff_getElem.1 hp;rw[FW];rw[qw]at hi;unfold Ax;have hb:=(agt _).2 (h1 _ (getElem_mem hi));by_cases h0:i=0
  .simp[h0]at hb ⊢;exact hb
  .obtain⟨j,rfl⟩:∃j,i=j+1:=⟨i -1,by omega⟩;have⟨n1,n2⟩:=h2 j hi;simp only[Nat.succ_ne_zero,dif_neg,not_false_eq_true,Option.any_some,Nat.add_sub_cancel];rw[hb];simp only[Bool.false_or,Bool.or_eq_true,aJ,aG,beq_iff_eq];rintro (h |h)
   .omega
   .exact n2 h
theorem uz{l:U fK}{φ:(fK×Unit)->J Bool}(p:fK->Bool)(h:∀x∈l,φ (x,())=some (p x))(hl:l.length<1099511627776)(hn:l.length<n):jl n l φ=some (l.any p):=by
 unfold jl vz;have:=iL (l:=l) (step:=mH l φ) (λ i=>(i:Int)) p () (λ i=>(i:Int)) (λ i hi=>?_) (by simp[mH]) n hn
 .rw[show ((0:Nat):Int)=0 from rfl]at this;rw[this,<- RU];cases jA p l with
  |none=>rfl
  |some i=>simp<;>omega
 .have hi':decide ((i:Int)<(l.length:Int))=true:=by simpa using hi
  simp only[mH,hi',aj,bf hi,af,h _ (getElem_mem hi)];rw[bA (by omega)];cases p l[i]<;>rfl
def MT(s:U fK)(lot:Int)(e:nK):Bool:=e.lot==lot&&(cz e.area&&s.any λc=>decide (c.z1>e.top)&&LI c.area e.area)
def Ly(l:U nK)(lot:Int)(s:U fK):Bool:=FV s&&!(l.any (MT s lot))
theorem abj{l:U nK}{lot:Int}{s:U fK}(hl:l.length<=900)(he:∀e∈l,e.area.length<=900)(ha:∀x∈s,x.area.length<=900)(hn:1000<=n):FO n l lot s=some (Ly l lot s):=by
 unfold FO Ly;rw[Uu ha hn];simp only[af];cases hr:FV s with
 |false=>rfl
 |true=>
 have l80:=((Ze s).1 hr).1;have:=iL (l:=l) (step:=wV n l lot s) (λ i=>(i:Int)) (MT s lot) () (λ _=>false) (λ i hi=>?_) (by simp[wV]) n (by omega)
 .rw[show ((0:Nat):Int)=0 from rfl]at this;simp only[Bool.not_true,ak];rw[this,<- RU];cases jA (MT s lot) l<;>rfl
 .have hi':decide ((i:Int)<(l.length:Int))=true:=by simpa using hi
  have h1:=he _ (getElem_mem hi);have cf:=uz (n:=n) (l:=s) (φ:=λy:fK×Unit=>sw n y.1 l[i]) (λ c=>decide (c.z1>l[i].top)&&LI c.area l[i].area) (λ c hc=>by
   have:=ha c hc;show sw n c l[i]=_;unfold sw;rw[aiF (by omega) (by omega) (by omega) (by omega)];cases decide (c.z1>l[i].top)<;>rfl) (by omega) (by omega)
  simp only[wV,hi',aj,bf hi,af,jq (n:=n) (l:=l[i].area) (by omega) (by omega) hn,cf];rw[bA (by omega)];unfold MT;cases h2:l[i].lot==lot with
  |false=>
   have:(l[i].lot !=lot)=true:=(by simp[bne,h2]);simp[this,dm]
  |true=>
   have:(l[i].lot !=lot)=false:=(by simp[bne,h2]);simp only[this,ak,af];cases cz l[i].area with
   |false=>simp[dm]
   |true=>cases s.any λc=>decide (c.z1>l[i].top)&&LI c.area l[i].area<;>simp[dm]
theorem agv(r:ax):ef r=true↔(0<=r.x0/\r.x0<r.x1/\r.x1<=1048576)/\(0<=r.y0/\r.y0<r.y1/\r.y1<=1048576):=by simp only[ef,aG,aJ];omega
theorem Li{b:ax}{l:U d9}(r:ax)(x:Int)(hb:ef b=true)(hp:∀p∈l,Za p=true)(hr:ef r=true)(hx:0<=x/\x<1048576)(hl:l.length<=1000)(hn:2000<=n)(v:Int):
 iter (o8 n b l r x) n (v,(0:Int))=some (min (min v (wc b l x r.y0)) (wc b l x (r.y1 -1))):=by
 have ho:=(agv r).1 hr;have w:i64.wrap (r.y1 -1)=r.y1 -1:=dI (by omega) (by omega);have:=lC (l:=[r.y0,r.y1 -1]) (step:=o8 n b l r x) (λ i (s:Int)=>(s,(i:Int))) (λ y m=>min m (wc b l x y)) (λ s=>s) (λ i hi s=>?_) (λ s=>by simp[o8]) n (by simp;omega) v
 .rw[show ((0:Nat):Int)=0 from rfl]at this;exact this
 .have h2:i<2:=by simpa using hi
  have yb:0<=([r.y0,r.y1 -1]:U Int)[i]/\([r.y0,r.y1 -1]:U Int)[i] <1048576:=by
   rcases i with _ |_ |i
   .simp only[List.getElem_cons_zero];omega
   .simp only[List.getElem_cons_succ,List.getElem_cons_zero];omega
   .omega
  simp only[o8,show decide ((i:Int)<2)=true from decide_eq_true (by omega),bZ h2,aj,bE h2,w,bJ hi,af,aei hb hp ⟨hx,yb⟩ hl hn,aP i]
def Wf(b:ax)(l:U d9)(v:Int)(r:ax):Int:=min (min (min (min v (wc b l r.x0 r.y0)) (wc b l r.x0 (r.y1 -1))) (wc b l (r.x1 -1) r.y0)) (wc b l (r.x1 -1) (r.y1 -1))
theorem Lj{b:ax}{l:U d9}(r:ax)(hb:ef b=true)(hp:∀p∈l,Za p=true)(hr:ef r=true)(hl:l.length<=1000)(hn:2000<=n)(v:Int):
 iter (o9 n b l r) n (v,(0:Int))=some (Wf b l v r):=by
 have ho:=(agv r).1 hr;have w:i64.wrap (r.x1 -1)=r.x1 -1:=dI (by omega) (by omega);have:=lC (l:=[r.x0,r.x1 -1]) (step:=o9 n b l r) (λ i (s:Int)=>(s,(i:Int))) (λ x m=>min (min m (wc b l x r.y0)) (wc b l x (r.y1 -1))) (λ s=>s) (λ i hi s=>?_) (λ s=>by simp[o9]) n (by simp;omega) v
 .rw[show ((0:Nat):Int)=0 from rfl]at this;exact this
 .have h2:i<2:=by simpa using hi
  have xb:0<=([r.x0,r.x1 -1]:U Int)[i]/\([r.x0,r.x1 -1]:U Int)[i] <1048576:=by
   rcases i with _ |_ |i
   .simp only[List.getElem_cons_zero];omega
   .simp only[List.getElem_cons_succ,List.getElem_cons_zero];omega
   .omega
  simp only[o9,show decide ((i:Int)<2)=true from decide_eq_true (by omega),bZ h2,aj,bE h2,w,bJ hi,af,Li r _ hb hp hr xb hl hn,aP i]
def MM(b:ax)(l:U d9)(a:U ax):Int:=a.foldl (Wf b l) 4096
theorem U0{b:ax}{l:U d9}{a:U ax}(hb:ef b=true)(hp:∀p∈l,Za p=true)(ha:∀r∈a,ef r=true)(hal:a.length<=1000)(hl:l.length<=1000)(hn:2000<=n):yS n b l a=some (MM b l a):=by
 unfold yS;have:=lC (l:=a) (step:=tL n b l a) (λ i (s:Int)=>(s,(i:Int))) (λ r m=>Wf b l m r) (λ s=>s) (λ i hi s=>?_) (λ s=>by simp[tL]) n (by omega) 4096
 .rw[show ((0:Nat):Int)=0 from rfl]at this;rw[this];rfl
 .simp only[tL,bZ hi,aj,bf hi,af,Lj a[i] hb hp (ha _ (getElem_mem hi)) hl hn,aP i]
theorem apk(r:ax):ef r=true↔(0<=r.x0/\r.x0<r.x1/\r.x1<=1048576)/\(0<=r.y0/\r.y0<r.y1/\r.y1<=1048576):=by simp only[ef,aG,aJ];omega
abbrev At(t:gI):Prop:=t.area.length<=900/\t.from_.length*8<=140737488355328
theorem aiO{t:gI}(h:At t):O8 t=some t:=by
 unfold O8;have h2:=h.2;rw[RL (by omega),af,show nZ t.from_=some t.from_ from xE (b:=8) (by omega) (by simp only[maxLen];omega),af];simp only[bK,aD,aj]
theorem acT{land:U gI}{id:Int}(h:∀t∈land,At t)(hl:land.length<1099511627776)(hn:land.length<n):Bw n land id=some (dw land id):=by
 unfold Bw;have:=iL (l:=land) (step:=Fz land id) (λ i=>(i:Int)) (λ t=>t.id==id) () (λ i=>(land.getD i N6,true)) (λ i hi=>?_) ?_ n hn
 .rw[show ((0:Nat):Int)=0 from rfl]at this;rw[this];unfold dw;rcases Y5 (λ t:gI=>t.id==id) land with ⟨i,hi,h1,h2⟩ |⟨h1,h2⟩
  .rw[h1,h2];simp[hi]
  .rw[h1,h2];rfl
 .simp only[Fz,bZ hi,aj,bf hi,af,aiO (h _ (getElem_mem hi))];cases land[i].id==id with
  |true=>simp[hi]
  |false=>simp only[ak];rw[bA (by omega)]
 .simp[Fz]
theorem K3{land:U gI}(h:∀t∈land,At t)(id:Int):At (dw land id).1:=by
 unfold dw;split
 .rename_i t ht;exact h t (List.mem_of_find?_eq_some ht)
 .simp[At,N6]
structure arn(t:dK):Prop where
 rules:t.aE.length<=20
 Rg:∀r∈t.aE,aiM r
 zones:t.b7.length<=20
 land:t.land.length<=20
 lots:∀l∈t.land,At l
 cg:t.cg.length<=5
 arJ:∀e∈t.cg,e.area.length<=10
theorem Uv{α:Type}(p:α->Bool):∀l:U α,((List.range l.length).filter λi=>(l[i]?).any p).filterMap (λ i=>l[i]?)=l.filter p
 |[]=>rfl
 |a::l=>by
  have ih:=Uv p l;rw[bn,List.range_succ_eq_map,List.filter_cons,List.filter_cons];have e:(List.filter (λ i=>((a::l)[i]?).any p) (List.map Nat.succ (List.range l.length))).filterMap (λ i=>(a::l)[i]?)=l.filter p:=by
   rw[List.filter_map,List.filterMap_map];exact ih
  cases hp:p a with
  |true=>simp[hp];simpa using e
  |false=>simp[hp];simpa using e
def G0(a r:ax):ax:=⟨min a.x0 r.x0,min a.y0 r.y0,max a.x1 r.x1,max a.y1 r.y1⟩
def aki:U ax->ax
 |[]=>⟨0,0,0,0⟩
 |r::l=>l.foldl G0 r
def WE(a:U ax):ax×Bool:=bif decide (a≠[])&&cz a then(aki a,true)else(⟨0,0,0,0⟩,false)
theorem agy{a:U ax}(ha:a≠[])(hv:∀r∈a,ef r=true)(hl:a.length<=900)(hn:2000<=n):Pp n a=some (aki a,true):=by
 unfold Pp;have:=lC (l:=a.zip (List.range a.length)) (step:=BK a) (λ i (s:Bool×Int×Int×Int×Int)=>(s.1,(i:Int),s.2)) (λ p s=>bif !s.1 then(true,p.1.x0,p.1.y0,p.1.x1,p.1.y1)else(s.1,min s.2.1 p.1.x0,min s.2.2.1 p.1.y0,max s.2.2.2.1 p.1.x1,max s.2.2.2.2 p.1.y1)) (λ s=>s) (λ i hi s=>?_) (λ s=>?_) n (by simp;omega) (false,0,0,0,0)
 .rw[show ((0:Nat):Int)=0 from rfl]at this;simp only at this;rw[this];cases a with
  |nil=>exact absurd rfl ha
  |cons r l=>
   have gen:∀(l:U ax) (k:U Nat) (s:ax),l.length<=k.length->(l.zip k).foldl (λ (s:Bool×Int×Int×Int×Int) p=>bif !s.1 then(true,p.1.x0,p.1.y0,p.1.x1,p.1.y1)else(s.1,min s.2.1 p.1.x0,min s.2.2.1 p.1.y0,max s.2.2.2.1 p.1.x1,max s.2.2.2.2 p.1.y1)) (true,s.x0,s.y0,s.x1,s.y1)=(true,(l.foldl G0 s).x0,(l.foldl G0 s).y0,(l.foldl G0 s).x1,(l.foldl G0 s).y1):=by
    intro l
    induction l with
    |nil=>intro k s _;rfl
    |cons r l ih=>
     intro k s hk;cases k with
     |nil=>simp at hk
     |cons j k=>
      rw[List.zip_cons_cons,foldl_cons,foldl_cons];exact ih k (G0 s r) (by simpa using hk)
   rw[bn,List.range_succ_eq_map,List.zip_cons_cons,foldl_cons];simp only[Bool.not_false,aj];rw[gen l _ r (by simp)];rfl
 .have hi':i<a.length:=by simpa using hi
  obtain⟨s1,s2,s3,s4,s5⟩:=s;have ok:=hv _ (getElem_mem hi');simp only[BK,bZ hi',aj,bf hi',af,jK,ok,Bool.not_true,ak,Cs,List.getElem_zip,aP i]
 .obtain⟨s1,s2,s3,s4,s5⟩:=s;have:(a.zip (List.range a.length)).length=a.length:=by simp
  simp only[this,BK,dX,ak]
theorem aej(a:U ax)(hl:a.length<=900)(hn:2000<=n):KW n a=some (WE a):=by
 unfold KW WE;cases a with
 |nil=>rfl
 |cons r l=>
  have e:((((r::l).length:Nat):Int)==0)=false:=by simp;omega
  have e2:decide (r::l≠[])=true:=by simp
  rw[jq (by omega) (by omega) (by omega),e,e2];simp only[ak,af,Bool.true_and];cases hr:cz (r::l)with
  |false=>rfl
  |true=>
   simp only[Bool.not_true,ak];rw[agy (by simp) (vD hr).1 hl hn];rfl
structure arI(X Y:List Int)(es:List nK):Prop where
 ok:∀e∈es,cz e.area=true
 x0:∀e∈es,∀c∈e.area,c.x0∈X
 x1:∀e∈es,∀c∈e.area,c.x1∈X
 y1:∀e∈es,∀c∈e.area,c.y1∈Y
 len:∀e∈es,e.area.length<=200
 size:X.length*Y.length<=200000
abbrev aiP(t:dK):Prop:=∀l∈t.land,l.from_.length*8<=140737488355328
theorem uD{α W O:Type}{l:U α}{step:Int->J (Int⊕(W⊕O))}(p:α->Bool)(w:W)(o:O)
 (h:∀i (hi:i<l.length),step (i:Int)=some (bif p l[i]then .inr (.inr o)else .inl ((i+1:Nat):Int)))
 (hend:step (l.length:Int)=some (.inr (.inl w))) (n:Nat) (hn:l.length<n):iter step n (0:Int)=some (bif l.any p then .inr o else .inl w):=by
 have:=iL (l:=l) (step:=step) (λ i=>(i:Int)) p w (λ _=>o) h hend n hn;rw[show ((0:Nat):Int)=0 from rfl]at this;rw[this,<- jf];cases jA p l<;>rfl
def ye(t:dK):Bool:=
 (decide (t.aE.length<=10)&&(decide (t.b7.length<=6)&&(decide (t.cd.length<=20)&&(decide (t.bk.length<=20)&&(decide (t.land.length<=5)&&(decide (t.cg.length<=5)&&decide (t.built.length<=6)))))))&&
 (!(t.aE.any λr=>decide (r.zones.length>5) || decide (r.except.length>5))&&(!(t.land.any λl=>decide (l.area.length>10))&&!(t.cg.any λe=>decide (e.area.length>10))))
theorem aro{a b:Nat}:decide ((a:Int)>(b:Int))=!decide (a<=b):=by
 by_cases h:a<=b
 .have:¬((a:Int)>(b:Int)):=by omega
  simp[h,this]
 .have:(a:Int)>(b:Int):=by omega
  simp only[this,h,decide_true,decide_false,Bool.not_false]
theorem aiQ(t:dK)(hn:2000<=n):Wu n t=some (ye t):=by
 unfold Wu ye;simp only[show (10:Int)=((10:Nat):Int)from rfl,show(6:Int)=((6:Nat):Int)from rfl,show(20:Int)=((20:Nat):Int)from rfl,show(5:Int)=((5:Nat):Int)from rfl,aro,Cs,af];cases hA:(decide (t.aE.length<=10)&&(decide (t.b7.length<=6)&&(decide (t.cd.length<=20)&&(decide (t.bk.length<=20)&&(decide (t.land.length<=5)&&(decide (t.cg.length<=5)&&decide (t.built.length<=6)))))))with
 |false=>
  have e:(bif !decide (t.aE.length<=10)then true else bif !decide (t.b7.length<=6)then true else bif !decide (t.cd.length<=20)then true else bif !decide (t.bk.length<=20)then true else bif !decide (t.land.length<=5)then true else bif !decide (t.cg.length<=5)then true else !decide (t.built.length<=6))=true:=by
   revert hA;cases decide (t.aE.length<=10)<;>cases decide (t.b7.length<=6)<;>cases decide (t.cd.length<=20)<;>cases decide (t.bk.length<=20)<;>cases decide (t.land.length<=5)<;>cases decide (t.cg.length<=5)<;>cases decide (t.built.length<=6)<;>simp
  rw[e];rfl
 |true=>
  have e:(bif !decide (t.aE.length<=10)then true else bif !decide (t.b7.length<=6)then true else bif !decide (t.cd.length<=20)then true else bif !decide (t.bk.length<=20)then true else bif !decide (t.land.length<=5)then true else bif !decide (t.cg.length<=5)then true else !decide (t.built.length<=6))=false:=by
   revert hA;cases decide (t.aE.length<=10)<;>cases decide (t.b7.length<=6)<;>cases decide (t.cd.length<=20)<;>cases decide (t.bk.length<=20)<;>cases decide (t.land.length<=5)<;>cases decide (t.cg.length<=5)<;>cases decide (t.built.length<=6)<;>simp
  simp only[aG,aJ]at hA;rw[e];simp only[ak,Bool.true_and];rw[uD (l:=t.aE) (λ r=>decide (r.zones.length>5) || decide (r.except.length>5)) () false (λ i hi=>?_) (by simp[M0]) n (by omega)]
  .cases (t.aE.any λr=>decide (r.zones.length>5) || decide (r.except.length>5))with
   |true=>rfl
   |false=>
    simp only[ak,dU];rw[uD (l:=t.land) (λ l=>decide (l.area.length>10)) () false (λ i hi=>?_) (by simp[M4]) n (by omega)]
    .cases (t.land.any λl=>decide (l.area.length>10))with
     |true=>rfl
     |false=>
      simp only[ak,dU];rw[uD (l:=t.cg) (λ e=>decide (e.area.length>10)) () false (λ i hi=>?_) (by simp[M5]) n (by omega)]
      .cases (t.cg.any λe=>decide (e.area.length>10))<;>rfl
      .have d:decide ((((t.cg[i]).area.length:Nat):Int)>10)=decide ((t.cg[i]).area.length>10):=(by rw[fB,aJ,aJ];omega);simp only[M5,bZ hi,aj,bf hi,af,d,Option.map_some,Cs,aP i]
    .have d:decide ((((t.land[i]).area.length:Nat):Int)>10)=decide ((t.land[i]).area.length>10):=(by rw[fB,aJ,aJ];omega);simp only[M4,bZ hi,aj,bf hi,af,d,Option.map_some,Cs,aP i]
  .have d1:decide ((((t.aE[i]).zones.length:Nat):Int)>5)=decide ((t.aE[i]).zones.length>5):=(by rw[fB,aJ,aJ];omega);have d2:decide ((((t.aE[i]).except.length:Nat):Int)>5)=decide ((t.aE[i]).except.length>5):=(by rw[fB,aJ,aJ];omega);simp only[M0,bZ hi,aj,bf hi,af,d1,d2,Option.map_some,Cs,aP i];cases decide ((t.aE[i]).zones.length>5)<;>cases decide ((t.aE[i]).except.length>5)<;>rfl
theorem apl{t:dK}(h:ye t=true)(hf:aiP t):arn t:=by
 unfold ye at h;simp only[aG,aJ,Bool.not_eq_true',any_eq_false,Bool.or_eq_true,not_or]at h;obtain⟨⟨h1,h2,h3,h4,h5,h6,h7⟩,g1,g2,g3⟩:=h;refine⟨by omega,λr hr=>?_,by omega,by omega,λl hl=>?_,by omega,λe he=>?_⟩
 .have:=g1 r hr;exact⟨by omega,by omega⟩
 .have:=g2 l hl;exact⟨by omega,hf l hl⟩
 .have:=g3 e he;omega
theorem anM{V O:Type}{step:V->J (V⊕O)}(Inv:V->Prop)(Q:O->Prop)(m:V->Nat)
 (h:∀v,Inv v->(∃ v',step v=some (.inl v')/\Inv v'/\m v'<m v)\/∃o,step v=some (.inr o)/\Q o):
 ∀n v,Inv v->m v<n->∃o,iter step n v=some o/\Q o:=by
 intro n
 induction n with
 |zero=>intro v _ hm;omega
 |succ n ih=>
  intro v hv hm;rcases h v hv with ⟨v',h1,h2,h3⟩ |⟨o,h1,h2⟩
  .obtain⟨o,h4,h5⟩:=ih v' h2 (by omega);exact⟨o,by rw[kM h1];exact h4,h5⟩
  .exact⟨o,fJ h1,h2⟩
theorem gY{V O:Type}{step:V->J (V⊕O)}(f:Nat->V){s:V}(N:Nat)(o:O)(h0:s=f 0)
 (h1:∀i,i<N->step (f i)=some (.inl (f (i+1)))) (h2:step (f N)=some (.inr o)) (n:Nat) (hn:N<n):iter step n s=some o:=by rw[h0];exact lZ f N o h1 h2 n hn
def tb(f:Nat->Nat->Bool):U Bool:=(List.range 144).map λi=>f (i/12) (i%12)
theorem nH(f:Nat->Nat->Bool):(tb f).length=144:=by simp[tb]
theorem WG(f:Nat->Nat->Bool){a b:Nat}(ha:a<12)(hb:b<12):(tb f)[a*12+b]? =some (f a b):=by
 simp only[tb,List.getElem?_map];rw[List.getElem?_range (by omega)];simp only[Option.map_some,ay];rw[show (a*12+b)/12=a by omega,show(a*12+b)%12=b by omega]
theorem pM{f g:Nat->Nat->Bool}(h:∀a b,a<12->b<12->f a b=g a b):tb f=tb g:=by
 refine List.map_congr_left λi hi=>h _ _ ?_ ?_
 .have:=List.mem_range.1 hi;omega
 .omega
theorem ael{f g:Nat->Nat->Bool}(h:tb f=tb g){a b:Nat}(ha:a<12)(hb:b<12):f a b=g a b:=by
 have:=congrArg (λ l=>l[a*12+b]?) h;simpa[WG f ha hb,WG g ha hb]using this
def upd(f:Nat->Nat->Bool)(a b:Nat)(v:Bool):Nat->Nat->Bool:=λx y=>if x=a/\y=b then v else f x y
theorem apm(f:Nat->Nat->Bool){a b:Nat}(ha:a<12)(hb:b<12)(v:Bool):(tb f).set (a*12+b) v=tb (upd f a b v):=by
 apply List.ext_getElem?;intro i;rw[List.getElem?_set];simp only[tb,List.getElem?_map,length_map,List.length_range];by_cases hi:i<144
 .rw[List.getElem?_range hi];by_cases e:a*12+b=i
  .rw[aT e,aT (by omega)];have e1:i/12=a:=(by omega);have e2:i%12=b:=(by omega);simp[upd,e1,e2]
  .rw[aW e];have:¬(i/12=a/\i%12=b):=(by omega);simp[upd,this]
 .rw[List.getElem?_eq_none (by simp;omega)];by_cases e:a*12+b=i
  .omega
  .rw[aW e];rfl
def mI(f:Nat->Nat->Bool):dO:=⟨tb f,nH f⟩
theorem Nc(f:Nat->Nat->Bool):dG (sub (tb f) 0 144)=some (mI f):=by
 have h:sub (tb f) 0 144=tb f:=by rw[afO,take_of_length_le (by rw[nH];omega)]
 unfold dG;rw[dif_pos (by rw[h];exact nH f)];simp[mI,h]
theorem sG{l:U Bool}(f:Nat->Nat->Bool)(h:l.length=144):el l 0 (tb f)=tb f:=by
 simp only[el,List.take_zero,bI,Nat.zero_add,nH];rw[List.drop_of_length_le (by omega),append_nil]
theorem zZ:(List.replicate 144 false).length=144:=by simp
theorem vG:List.replicate 144 false=tb λ_ _=>false:=by
 apply List.ext_getElem?;intro i;simp only[tb,List.getElem?_map,List.getElem?_replicate];by_cases hi:i<144
 .rw[aT hi,List.getElem?_range hi];rfl
 .rw[aW hi,List.getElem?_eq_none (by simp;omega)];rfl
theorem pz(f g:Nat->Nat->Bool):(be (tb f).length 144&&kZ 0 (tb f).length (tb g).length)=true:=by simp[nH,be,kZ]
theorem WH(f:Nat->Nat->Bool){a b:Nat}(ha:a<12)(hb:b<12):sy (tb f) (0+(a:Int).toNat*12) (b:Int)=some (f a b):=by
 simp only[sy,Nat.zero_add,Int.toNat_natCast,show decide ((0:Int)<=(b:Int))=true by simp,aj];exact WG f ha hb
theorem Zf(f:Nat->Nat->Bool){a b:Nat}(ha:a<12)(hb:b<12):(decide ((0:Int)<=(b:Int))&&kZ ((0+(a:Int).toNat*12)+(b:Int).toNat) 1 (tb f).length)=true:=by simp only[kZ,nH,Int.toNat_natCast,aG,aJ];omega
theorem aem(f:Nat->Nat->Bool){a b:Nat}(ha:a<12)(hb:b<12)(v:Bool):List.set (tb f) ((0+(a:Int).toNat*12)+(b:Int).toNat) v=tb (upd f a b v):=by simp only[Nat.zero_add,Int.toNat_natCast];exact apm f ha hb v
def N5(p:Nat->Bool):Bool:=(List.range 12).any p
theorem En{p:Nat->Bool}:N5 p=true↔∃b,b<12/\p b=true:=by simp only[N5,any_eq_true,List.mem_range]
def rI(w:Nat->Nat->Bool):Nat->Nat->Bool:=λa c=>w a c || N5 λb=>w a b&&w b c
theorem agz(hn:100<=n){v2:U Bool}(h2:v2.length=144)(w f:Nat->Nat->Bool){a b:Nat}(ha:a<12)(hb:b<12):
 iter (sS v2 (mI w) (a:Int) (b:Int)) n ((0:Int),tb f)=some (tb λx y=>if x=a then f x y || (w a b&&w b y)else f x y):=by
 refine gY (λ i=>((i:Int),tb λx y=>if x=a/\y<i then f x y || (w a b&&w b y)else f x y)) 12 _ (by simp) (λ i hi=>?_) ?_ n (by omega)
 .have e:decide ((i:Int)<12)=true:=by simp;omega
  have hw:el v2 0 (mI w).l=tb w:=sG w h2;simp only[sS,e,aj,OO,ha,hb,hi,decide_true,hw];generalize hF:(λ x y=>if x=a/\y<i then f x y || (w a b&&w b y)else f x y:Nat->Nat->Bool)=F;have hFa:F a i=f a i:=by rw[<- hF];simp
  have fin:∀v,v=(f a i || (w a b&&w b i))->tb (upd F a i v)=tb λx y=>if x=a/\y<i+1 then f x y || (w a b&&w b y)else f x y:=by
   intro v hv;refine pM λx y _ _=>?_;simp only[upd,<- hF];by_cases h1:x=a
   .subst h1;by_cases h3:y=i
    .subst h3;simp[hv]
    .by_cases h4:y<i
     .simp[h3,h4,show y<i+1 by omega]
     .simp[h3,h4,show ¬y<i+1 by omega]
   .simp[h1]
  simp only[WH F ha hi,WH w ha hb,WH w hb hi,Zf F ha hi,aem F ha hi,af,aj,hFa,aP i];cases h1:f a i with
  |true=>simp only[aj,af];rw[fin true (by simp[h1])]
  |false=>
   simp only[ak];cases h3:w a b with
   |true=>simp only[aj,af];rw[fin (w b i) (by simp[h1,h3]),h3]
   |false=>simp only[ak,af];rw[fin false (by simp[h1,h3]),h3]
 .have e:decide (((12:Nat):Int)<12)=false:=by decide
  simp only[sS,e,ak];rw[pM λx y _ hy=>?_];by_cases h1:x=a<;>simp[h1,hy]
theorem agA(hn:100<=n){v2:U Bool}(h2:v2.length=144)(w f:Nat->Nat->Bool){a:Nat}(ha:a<12):
 iter (sU n v2 (mI w) (a:Int)) n ((0:Int),tb f)=some (tb λx y=>if x=a then f x y || N5 (λ b=>w a b&&w b y)else f x y):=by
 refine gY (λ i=>((i:Int),tb λx y=>if x=a then f x y || (List.range i).any (λ b=>w a b&&w b y)else f x y)) 12 _ (by simp) (λ i hi=>?_) ?_ n (by omega)
 .have e:decide ((i:Int)<12)=true:=by simp;omega
  simp only[sU,e,aj];rw[agz hn h2 w _ ha hi];simp only[af,aP i];rw[pM λx y _ _=>?_];by_cases h1:x=a
  .simp[h1,List.range_succ,Bool.or_assoc]
  .simp[h1]
 .have e:decide (((12:Nat):Int)<12)=false:=by decide
  simp only[sU,e,ak];rfl
theorem agB(hn:100<=n){v2:U Bool}(h2:v2.length=144)(w:Nat->Nat->Bool):
 iter (sV n v2 (mI w)) n ((0:Int),tb w)=some (tb (rI w)):=by
 refine gY (λ i=>((i:Int),tb λx y=>if x<i then rI w x y else w x y)) 12 _ (by simp) (λ i hi=>?_) ?_ n (by omega)
 .have e:decide ((i:Int)<12)=true:=by simp;omega
  simp only[sV,e,aj];rw[agA hn h2 w _ hi];simp only[af,aP i];rw[pM λx y _ _=>?_];by_cases h1:x=i
  .subst h1;simp[rI]
  .by_cases h3:x<i
   .simp[h1,h3,show x<i+1 by omega]
   .simp[h1,h3,show ¬x<i+1 by omega]
 .have e:decide (((12:Nat):Int)<12)=false:=by decide
  simp only[sV,e,ak];rw[pM λx y hx _=>?_];simp[hx]
def cnt(l:U Bool):Nat:=l.countP id
theorem anN(l:U Bool):cnt l<=l.length:=List.countP_le_length
theorem cnt_lt:∀{l m:U Bool},l.length=m.length->(∀ (i:Nat) (h:i<l.length) (h':i<m.length),l[i]=true->m[i]=true)->l≠m->cnt l<cnt m
 |[],[],_,_,h=>absurd rfl h
 |x::l,y::m,hl,hs,hne=>by
  have h0:=hs 0 (by simp) (by simp);have ht:∀(i:Nat)(h:i<l.length)(h':i<m.length),l[i]=true->m[i]=true:=λi h h'=>by
   have:=hs (i+1) (by simpa using h) (by simpa using h');simp only[List.getElem_cons_succ]at this;exact this
  simp only[List.getElem_cons_zero]at h0;have hl':l.length=m.length:=by simpa using hl
  have hle:cnt l<=cnt m:=by
   by_cases e:l=m
   .rw[e];exact aC _
   .exact Nat.le_of_lt (cnt_lt hl' ht e)
  simp only[cnt,List.countP_cons,id]at hle ⊢;by_cases e:l=m
  .subst e;have:x≠y:=λe=>hne (by rw[e]);cases x<;>cases y<;>simp_all
  .have:=cnt_lt hl' ht e;simp only[cnt]at this;cases x<;>cases y<;>simp_all<;>omega
 |[],_::_,h,_,_=>by simp at h
 |_::_,[],h,_,_=>by simp at h
theorem apn{w:Nat->Nat->Bool}(h:tb w≠tb (rI w)):cnt (tb w)<cnt (tb (rI w)):=by
 refine cnt_lt (by rw[nH,nH]) (λ i h1 h2 hi=>?_) h;simp only[tb,List.getElem_map,List.getElem_range,rI]at hi ⊢;simp[hi]
inductive Tc(e:Nat->Nat->Bool):Nat->Nat->Prop
 |one {a b:Nat}:a<12->b<12->e a b=true->Tc e a b
 |trans {a b c:Nat}:Tc e a b->Tc e b c->Tc e a c
theorem Tc.lt{e:Nat->Nat->Bool}{a b:Nat}(h:Tc e a b):a<12/\b<12:=by
 induction h with
 |one h1 h2 _=>exact⟨h1,h2⟩
 |trans _ _ i1 i2=>exact⟨i1.1,i2.2⟩
theorem PO(hn:400<=n)(m0:Nat->Nat->Bool):∃r:Nat->Nat->Bool,uR n (mI m0)=some (mI r)/\(∀ a b,a<12->b<12->(r a b=true↔Tc m0 a b)):=by
 unfold uR;simp only[vG,pz,aj,sG _ (nH _)]
 obtain⟨o,h1,r,rfl,hr1,hr2,hr3⟩:=anM (step:=xX n)
  (λ v=>∃m w:Nat->Nat->Bool,v=(tb m,tb w)/\(∀ a b,a<12->b<12->m0 a b=true->m a b=true)/\(∀ a b,a<12->b<12->m a b=true->Tc m0 a b)/\(tb m=tb (rI w)\/tb w=tb λ_ _=>false))
  (λ o=>∃r:Nat->Nat->Bool,o=tb r/\(∀ a b,a<12->b<12->m0 a b=true->r a b=true)/\(∀ a b,a<12->b<12->r a b=true->Tc m0 a b)/\tb r=tb (rI r))
  (λ v=>2*(144 -cnt v.1)+(if v.2=v.1 then 0 else 1)) (by
   rintro v ⟨m,w,rfl,h1,h2,h3⟩;simp only[xX,Nc,af];by_cases he:tb w=tb m
   .refine .inr ⟨tb m,?_,m,rfl,h1,h2,?_⟩
    .have:yq (mI w).l (mI m).l=true:=(by show decide (tb w=tb m)=true;simp[he]);simp[this]
    .rcases h3 with h3 |h3
     .rw[h3];refine pM λa b ha hb=>?_;have Bi:∀x y,x<12->y<12->w x y=m x y:=λx y hx hy=>ael he hx hy;simp only[rI,Bi a b ha hb];congr 1;rw[fB,En,En];constructor
      .rintro⟨c,hc,h⟩;exact⟨c,hc,by rw[<- Bi a c ha hc,<- Bi c b hc hb];exact h⟩
      .rintro⟨c,hc,h⟩;exact⟨c,hc,by rw[Bi a c ha hc,Bi c b hc hb];exact h⟩
     .have hm0:∀x y,x<12->y<12->m x y=false:=λx y hx hy=>ael (he.symm.trans h3) hx hy;refine pM λa b ha hb=>?_;simp only[rI,hm0 a b ha hb,Bool.false_or];symm;rw[Bool.eq_false_iff];intro h;have⟨c,hc,h⟩:=En.1 h;rw[hm0 a c ha hc]at h;simp at h
   .refine .inl ⟨(tb (rI m),tb m),?_,⟨rI m,m,rfl,λa b ha hb h=>by simp[rI,h1 a b ha hb h],λa b ha hb h=>?_,.inl rfl⟩,?_⟩
    .have:yq (mI w).l (mI m).l=false:=(by show decide (tb w=tb m)=false;simp[he]);simp only[this,Bool.not_false,aj,af];have e1:(be (mI m).l.length 144&&kZ 0 (mI m).l.length (tb w).length)=true:=pz m w;have e2:el (tb w) 0 (mI m).l=tb m:=sG m (nH w);simp only[e1,aj,agB (show 100<=n by omega) (nH w) m,af,e2,Nc];have e3:(be (mI m).l.length 144&&kZ 0 (mI m).l.length (List.replicate 144 false).length)=true:=(by rw[vG];exact pz m _);have e4:el (List.replicate 144 false) 0 (mI m).l=tb m:=sG m zZ;simp only[e3,e4,aj]
    .simp only[rI,Bool.or_eq_true]at h;rcases h with h |h
     .exact h2 a b ha hb h
     .have⟨c,hc,h⟩:=En.1 h;simp only[aG]at h;exact .trans (h2 a c ha hc h.1) (h2 c b hc hb h.2)
    .simp only;have hc:=anN (tb m);rw[nH]at hc;rw[aW he];by_cases hr:tb m=tb (rI m)
     .rw[aT hr,<- hr];omega
     .have:=apn hr;have hc2:=anN (tb (rI m));rw[nH]at hc2;rw[aW hr];omega)
  n (tb m0,tb λ_ _=>false) ⟨m0,λ_ _=>false,rfl,λ_ _ _ _ h=>h,λa b ha hb h=> .one ha hb h,.inr rfl⟩ (by
    simp only;split<;>omega)
 have e0:(mI m0).l=tb m0:=rfl;simp only[e0,h1,af,Nc];have e3:(be (mI r).l.length 144&&kZ 0 (mI r).l.length (tb λ_ _=>false).length)=true:=pz r _;have e4:el (tb λ_ _=>false) 0 (mI r).l=tb r:=sG r (nH _);simp only[e3,e4,aj,Nc,af];refine⟨r,rfl,λa b ha hb=>⟨hr2 a b ha hb,λh=>?_⟩⟩
 induction h with
 |one h1 h2 h3=>exact hr1 _ _ h1 h2 h3
 | @trans x y z p q i1 i2=>
  have:=ael hr3 p.lt.1 q.lt.2;rw[this];simp only[rI,Bool.or_eq_true];exact .inr (En.2 ⟨y,p.lt.2,by rw[i1 p.lt.1 p.lt.2,i2 q.lt.1 q.lt.2];rfl⟩)
def R7(o:bL)(p:nY):Bool:=decide (0<=min p.a0 p.a1)&&decide (max p.a0 p.a1<o.values)
def vH(o:bL):Bool:=decide (1<=o.values)&&decide (o.values<=12)&&decide (o.pairs.length<=144)&&o.pairs.all (R7 o)
theorem K4{α:Type}(p:α->Bool)(l:U α):(match jA (λ x=>!(p x)) l with |some _=>false |none=>true)=l.all p:=by
 have h:=jf (λ x=>!(p x)) l;cases hf:jA (λ x=>!(p x)) l with
 |some i=>
  rw[hf]at h;simp only[Option.isSome_some]at h;have:l.all p=false:=by rw[List.all_eq_not_any_not];rw[<- h];rfl
  rw[this]
 |none=>
  rw[hf]at h;simp only[Option.isSome_none]at h;have:l.all p=true:=by rw[List.all_eq_not_any_not];rw[<- h];rfl
  rw[this]
theorem Gy(hn:200<=n)(o:bL):uP n o=some (vH o):=by
 unfold uP vH;by_cases h1:o.values<1
 .have:decide (1<=o.values)=false:=by simp;omega
  simp[h1,this]
 .have e1:decide (1<=o.values)=true:=by simp;omega
  by_cases h2:o.values>12
  .have:decide (o.values<=12)=false:=(by simp;omega);simp[h1,h2,this]
  .have e2:decide (o.values<=12)=true:=(by simp;omega);by_cases h3:(o.pairs.length:Int)>144
   .have:decide (o.pairs.length<=144)=false:=(by simp;omega);simp[h1,h2,h3,this]
   .have e3:decide (o.pairs.length<=144)=true:=(by simp;omega);have hl:o.pairs.length<=144:=(by omega);simp only[h1,h2,h3,e1,e2,e3,decide_false,ak,af,Bool.true_and];have:=iL (l:=o.pairs) (step:=sP o) (λ i=>(i:Int)) (λ p=>!(R7 o p)) () (λ _=>false) (λ i hi=>by
     have e:decide ((i:Int)<(o.pairs.length:Int))=true:=(by simpa using hi);simp only[sP,e,aj,bf hi,af,R7,aP i];by_cases h4:min o.pairs[i].a0 o.pairs[i].a1<0
     .have:decide (0<=min o.pairs[i].a0 o.pairs[i].a1)=false:=(by simpa using h4);simp only[h4,this,decide_true,aj,af,Bool.false_and,Bool.not_false,Option.map_some]
     .have:decide (0<=min o.pairs[i].a0 o.pairs[i].a1)=true:=(by simpa using h4);simp only[h4,this,decide_false,ak,af,Bool.true_and];by_cases h5:max o.pairs[i].a0 o.pairs[i].a1>=o.values
      .have:decide (max o.pairs[i].a0 o.pairs[i].a1<o.values)=false:=(by simpa using h5);simp only[h5,this,decide_true,aj,Bool.not_false,Option.map_some]
      .have:decide (max o.pairs[i].a0 o.pairs[i].a1<o.values)=true:=(by simp only[aJ];omega);simp only[h5,this,decide_false,ak,Bool.not_true]) (by
     have e:decide ((o.pairs.length:Int)<(o.pairs.length:Int))=false:=(by simp);simp only[sP,e,ak]) n (by omega)
    rw[show ((0:Nat):Int)=0 from rfl]at this;rw[this];have hf:=K4 (R7 o) o.pairs;cases hx:jA (λ p=>!(R7 o p)) o.pairs with
    |some i=>rw[hx]at hf;simp only[jy];rw[<- hf]
    |none=>rw[hx]at hf;simp only[dU];rw[<- hf]
def eO(o:bL)(a b:Nat):Bool:=o.pairs.any λp=>decide (p.a0=(a:Int))&&decide (p.a1=(b:Int))
theorem apo(l:U nY)(x y:Nat)(p:nY)(h0:p.a0=(x:Int))(h1:p.a1=(y:Int)):upd (λ (a b:Nat)=>l.any λp=>decide (p.a0=(a:Int))&&decide (p.a1=(b:Int))) x y true=λ(a b:Nat)=>(l++[p]).any λp=>decide (p.a0=(a:Int))&&decide (p.a1=(b:Int)):=by
 funext a b;simp only[upd,List.any_append,List.any_cons,List.any_nil,Bool.or_false,h0,h1];by_cases h:a=x/\b=y
 .obtain⟨rfl,rfl⟩:=h;simp
 .rw[aW h];have:(decide ((x:Int)=(a:Int))&&decide ((y:Int)=(b:Int)))=false:=by
   simp only[Bool.and_eq_false_iff,dD];omega
  rw[this,Bool.or_false]
theorem aiR{o:bL}(hv:vH o=true){p:nY}(hp:p∈o.pairs):∃x y:Nat,p.a0=(x:Int)/\p.a1=(y:Int)/\(x:Int)<o.values/\(y:Int)<o.values/\x<12/\y<12:=by
 simp only[vH,aG,aJ,all_eq_true]at hv;obtain⟨⟨⟨h1,h2⟩,h3⟩,h4⟩:=hv;have:=h4 p hp;simp only[R7,aG,aJ]at this;refine⟨p.a0.toNat,p.a1.toNat,?_,?_,?_,?_,?_,?_⟩<;>omega
theorem U1(hn:200<=n){o:bL}(hv:vH o=true):uQ n o=some (mI (eO o)):=by
 have hl:o.pairs.length<=144:=by simp only[vH,aG,aJ]at hv;exact hv.1.2
 have:=gY (step:=sQ o) (λ i=>((i:Int),tb λa b=>(o.pairs.take i).any λp=>decide (p.a0=(a:Int))&&decide (p.a1=(b:Int)))) (s:=((0:Int),List.replicate 144 false)) o.pairs.length (tb (eO o)) (by
  simp only[List.take_zero,List.any_nil,vG];rfl) (λ i hi=>by
  have e:decide ((i:Int)<(o.pairs.length:Int))=true:=by simpa using hi
  obtain⟨x,y,h0,h1,_,_,hx,hy⟩:=aiR hv (getElem_mem hi);have e2:o.pairs.take (i+1)=o.pairs.take i++[o.pairs[i]]:=by rw[fD hi]
  simp only[sQ,e,aj,bf hi,af,h0,h1,OO,hx,hy,decide_true,aP i];rw[Zf _ hx hy,aem _ hx hy,e2,apo _ x y _ h0 h1];simp only[aj]) (by
  have e:decide ((o.pairs.length:Int)<(o.pairs.length:Int))=false:=by simp
  simp only[sQ,e,ak,List.take_length];rfl) n (by omega)
 unfold uQ;rw[this];have e3:(be (mI (eO o)).l.length 144&&kZ 0 (mI (eO o)).l.length (List.replicate 144 false).length)=true:=by rw[vG];exact pz _ _
 have e4:el (List.replicate 144 false) 0 (mI (eO o)).l=tb (eO o):=sG _ zZ;simp only[af,Nc,e3,e4,aj]
open Classical in
noncomputable def rb(e:Nat->Nat->Bool)(a b:Nat):Bool:=decide (Tc e a b)
theorem WI{e:Nat->Nat->Bool}{a b:Nat}:rb e a b=true↔Tc e a b:=by simp[rb]
theorem U2(hn:400<=n)(m0:Nat->Nat->Bool):uR n (mI m0)=some (mI (rb m0)):=by
 have⟨r,h1,h2⟩:=PO hn m0;rw[h1];have:tb r=tb (rb m0):=pM λa b ha hb=>by rw[fB,WI];exact h2 a b ha hb
 simp only[mI,this]
open Classical in
noncomputable def yd(o:bL):Bool:=decide (∃ a,Tc (eO o) a a)
theorem agC{o:bL}:yd o=true↔∃a,Tc (eO o) a a:=by simp[yd]
noncomputable def nw(o:bL)(a b:Nat):Bool:=rb (eO o) a b || (decide (a=b)&&decide ((a:Int)<o.values))
def rk:dO:=mI λ_ _=>false
theorem agD:(ck (be (List.replicate 144 false).length 144&&kZ 0 (List.replicate 144 false).length (List.replicate 144 false).length) ((dG (sub (el (List.replicate 144 false) 0 (List.replicate 144 false)) 0 144)).bind λz1=>some (z1,false)))=some (rk,false):=by simp only[vG,pz,aj,sG _ (nH _),Nc,af];rfl
theorem Eo(hn:400<=n)(o:bL):rW n o=some (bif vH o&&!(yd o)then(mI (nw o),true)else(rk,false)):=by
 unfold rW;rw[Gy (by omega),agD];simp only[af];cases hv:vH o with
 |false=>simp
 |true=>
  have hb:1<=o.values/\o.values<=12:=by simp only[vH,aG,aJ]at hv;exact⟨hv.1.1.1,hv.1.1.2⟩
  simp only[Bool.not_true,ak,U1 (show 200<=n by omega) hv,af,U2 hn,Bool.true_and];have e3:(be (mI (rb (eO o))).l.length 144&&kZ 0 (mI (rb (eO o))).l.length (List.replicate 144 false).length)=true:=by rw[vG];exact pz _ _
  have e4:el (List.replicate 144 false) 0 (mI (rb (eO o))).l=tb (rb (eO o)):=sG _ zZ;simp only[e3,e4,aj];have h1:=iL (l:=List.range 12) (step:=qI (mI (rb (eO o)))) (λ i=>(i:Int)) (λ a=>rb (eO o) a a) () (λ _=>(rk,false)) (λ i hi=>by
   rw[List.length_range]at hi;have e:decide ((i:Int)<12)=true:=(by simp;omega);simp only[qI,e,aj,OO,hi,decide_true,e4,WH _ hi hi,af,List.getElem_range,aP i];cases rb (eO o) i i with
   |false=>rfl
   |true=>
    have:=agD;have e5:(be (List.replicate 144 false).length 144&&kZ 0 (List.replicate 144 false).length (List.replicate 144 false).length)=true:=(by rw[vG];exact pz _ _);simp only[e5,aj]at this ⊢;rw[this];rfl) (by
   rw[List.length_range];have e:decide (((12:Nat):Int)<12)=false:=(by decide);simp only[qI,e,ak]) n (by simp;omega)
  rw[show ((0:Nat):Int)=0 from rfl]at h1;rw[h1];have hs:=jf (λ a=>rb (eO o) a a) (List.range 12);have hcy:yd o=(List.range 12).any λa=>rb (eO o) a a:=by
   rw[fB,agC,any_eq_true];constructor
   .rintro⟨a,ha⟩;exact⟨a,List.mem_range.2 ha.lt.1,WI.2 ha⟩
   .rintro⟨a,_,ha⟩;exact⟨a,WI.1 ha⟩
  rw[hcy,<- hs];cases hf:jA (λ a=>rb (eO o) a a) (List.range 12)with
  |some i=>simp only[jy,Option.isSome_some,Bool.not_true,ak]
  |none=>
   simp only[dU,Option.isSome_none,Bool.not_false,aj];obtain⟨m,hm⟩:∃m:Nat,o.values=(m:Int):=⟨o.values.toNat,by omega⟩;have h2:=gY (step:=qJ o) (λ i=>((i:Int),tb λa b=>rb (eO o) a b || (decide (a=b)&&decide (a<i)))) (s:=((0:Int),tb (rb (eO o)))) m (tb (nw o)) (by simp) (λ i hi=>by
    have e:decide ((i:Int)<o.values)=true:=(by simp;omega);have qv:i<12:=(by omega);simp only[qJ,e,aj,OO,qv,decide_true,aP i];rw[Zf _ qv qv,aem _ qv qv];simp only[aj];rw[pM λa b _ _=>?_];simp only[upd];by_cases h:a=i/\b=i
    .obtain⟨rfl,rfl⟩:=h;simp
    .rw[aW h];by_cases h4:a=b
     .subst h4;have:¬a=i:=λh5=>h ⟨h5,h5⟩;have e6:decide (a<i+1)=decide (a<i):=(by simp only[decide_eq_decide];omega);rw[e6]
     .simp[h4]) (by
    have e:decide ((m:Int)<o.values)=false:=(by simp;omega);simp only[qJ,e,ak];rw[pM λa b _ _=>?_];simp only[nw,hm,Int.ofNat_lt]) n (by omega)
   rw[h2];have e7:(be (mI (nw o)).l.length 144&&kZ 0 (mI (nw o)).l.length (List.replicate 144 false).length)=true:=(by rw[vG];exact pz _ _);have e8:el (List.replicate 144 false) 0 (mI (nw o)).l=tb (nw o):=sG _ zZ;simp only[af,Nc,e7,e8,aj]
theorem R8{l:U Bool}(h:l.length<1099511627776):Cq l=some l:=xE (b:=1) (by omega) (by simp only[maxLen];omega)
noncomputable def qx(o:bL):U (List Bool):=(List.range o.values.toNat).map λa=>(List.range o.values.toNat).map λb=>nw o a b
noncomputable def uH(o:bL):Bool:=vH o&&!(yd o)
theorem apq(f:Nat->Nat->Bool){a m:Nat}(ha:a<12)(hm:m<=12):sub (tb f) (0+a*12) m=(List.range m).map (f a):=by
 apply List.ext_getElem?;intro i;simp only[sub,List.getElem?_take,List.getElem?_drop,List.getElem?_map];by_cases hi:i<m
 .rw[aT hi,show 0+a*12+i=a*12+i by omega,WG f ha (by omega),List.getElem?_range hi];rfl
 .rw[aW hi,List.getElem?_eq_none (by simp;omega)];rfl
theorem PS(hn:400<=n)(o:bL)(hk:uH o=true):uY n o=some (qx o,[],0):=by
 unfold uY;simp only[uH,aG,Bool.not_eq_true']at hk;obtain⟨hv,hc⟩:=hk;rw[Eo hn,Gy (by omega),hv,hc];simp only[af];have e1:(be (mI (nw o)).l.length 144&&kZ 0 (mI (nw o)).l.length (List.replicate 144 false).length)=true:=by rw[vG];exact pz _ _
 have e2:el (List.replicate 144 false) 0 (mI (nw o)).l=tb (nw o):=sG _ zZ;have hb:1<=o.values/\o.values<=12:=by simp only[vH,aG,aJ]at hv;exact⟨hv.1.1.1,hv.1.1.2⟩
 obtain⟨m,hm⟩:∃m:Nat,o.values=(m:Int):=⟨o.values.toNat,by omega⟩;have hz:be 0 ([]:U (List Bool)).length=true:=rfl;have key:iter (pW o (mI (nw o),true)) n ((0:Int),([]:U (List Bool)))=some (qx o):=by
  refine gY (λ i=>((i:Int),(List.range i).map λa=>(List.range m).map λb=>nw o a b)) m _ (by simp) (λ i hi=>?_) ?_ n (by omega)
  .have e:decide ((i:Int)<o.values)=true:=(by simp;omega);have qv:i<12:=(by omega);have HJ:vQ 0 o.values 12=true:=wz (by omega) (by omega) (by omega);have hfit:kZ (0+i*12) 12 (tb (nw o)).length=true:=(by simp only[kZ,nH,aJ];omega);have hmt:o.values.toNat=m:=(by omega);have hrl:((List.range m).map (nw o i)).length=m:=(by simp);have hs1:∀r:U Bool,sub ([r]:U (List Bool)) 0 1=[r]:=λ_=>rfl;have hap:∀k:Nat,k<12->bP k k 1 1 24=true:=λk hk=>cu (by omega) (by simp only[maxLen];omega);simp only[pW,e,aj,OO,qv,decide_true,e2,Int.toNat_natCast,HJ,hfit,hmt,apq (nw o) qv (show m<=12 by omega),hrl,aD,Bool.and_self,R8 (l:=(List.range m).map (nw o i)) (by rw[hrl];omega),af,bK,hs1,length_singleton,length_map,List.length_range,hap i qv,dY,aP i];have e3:sub (List.map (nw o i) (List.range m)) 0 m=List.map (nw o i) (List.range m):=(by rw[afO,take_of_length_le (by simp)]);simp[e3,List.range_succ]
  .have e:decide ((m:Int)<o.values)=false:=(by simp;omega);simp only[pW,e,ak,aD,aj];simp only[qx,hm,Int.toNat_natCast]
 simp only[Bool.not_false,Bool.and_self,aj,e1,Bool.not_true,ak,hz,key,af,bK,aD]
def okO(o:bL):Prop:=vH o=true/\yd o=false
abbrev Mx:=List (List (List Bool))
noncomputable def BR(os:U bL):J Mx:=if os.length<=12/\os.all uH=true then some (os.map qx)else none
def W7:J Mx->Mx×Bool
 |some M=>(M,true)
 |none=>([],false)
theorem apr(hn:400<=n)(os:U bL)(hko:os.all uH=true):uZ n os=some (W7 (BR os)):=by
 unfold uZ BR;by_cases hl:os.length<=12
 .have e1:decide ((os.length:Int)>12)=false:=by simp;omega
  have hz:be 0 ([]:Mx).length=true:=rfl;have key:=iL (l:=os) (step:=pX n os) (λ i=>((i:Int),(os.take i).map qx)) (λ o=>!(uH o)) (os.map qx) (λ _=>(([]:Mx),false)) (λ i hi=>by
   have e:decide ((i:Int)<(os.length:Int))=true:=(by simpa using hi);have h1:((os.take i).map qx).length=i:=(by simp;omega);have hs1:∀r:U (List Bool),sub ([r]:Mx) 0 1=[r]:=λ_=>rfl;have hap:bP i i 1 1 24=true:=cu (by omega) (by simp only[maxLen];omega);simp only[pX,e,aj,bf hi,af,PS hn _ (all_eq_true.1 hko _ (getElem_mem hi))];cases hk:uH os[i]with
   |true=>
    simp only[bne_self_eq_false,ak,bK,aD,aj,h1,hs1,length_singleton,hap,dY,Bool.not_true,aP i];rw[fD hi,map_append];rfl
   |false=>
    rw[all_eq_true.1 hko _ (getElem_mem hi)]at hk;cases hk) (by
   have e:decide ((os.length:Int)<(os.length:Int))=false:=(by simp);simp only[pX,e,ak,aD,aj,List.take_length]) n (by omega)
  simp only[List.take_zero,map_nil]at key;rw[show ((0:Nat):Int)=0 from rfl]at key;simp only[e1,ak,hz,aj,key];have hf:=K4 uH os;cases hx:jA (λ o=>!(uH o)) os with
  |some i=>rw[hx]at hf;simp only at hf;simp only[jy];rw[aW (by rw[<- hf];simp)];rfl
  |none=>rw[hx]at hf;simp only at hf;simp only[dU,bK,aD,aj];rw[aT ⟨hl,hf.symm⟩];rfl
 .have e1:decide ((os.length:Int)>12)=true:=by simp;omega
  simp only[e1,aj];rw[aW (by omega)];rfl
def Zg(M:Mx)(v:U Int)(i:Nat):Bool:=match v[i]?,M[i]? with
 |some x,some R=>decide (0<=x)&&decide (x<(R.length:Int))
 |_,_=>false
def Ay(M:Mx)(v:U Int):Bool:=decide (v.length=M.length)&&(List.range M.length).all (Zg M v)
theorem Uw(M:Mx)(v:U Int)(hn:M.length<n)(hm:M.length<9223372036854775807):eD n M v=some (Ay M v):=by
 unfold eD Ay;by_cases hl:v.length=M.length
 .have e1:((v.length:Int) !=(M.length:Int))=false:=by simp;omega
  have key:=iL (l:=List.range M.length) (step:=gK M v) (λ i=>(i:Int)) (λ i=>!(Zg M v i)) () (λ _=>false) (λ i hi=>by
   rw[List.length_range]at hi;have hv:i<v.length:=(by omega);have e:decide ((i:Int)<(v.length:Int))=true:=(by simpa using hv);simp only[gK,e,aj,bf hv,bf hi,af,List.getElem_range,Zg,bX hv,bX hi,aP i];by_cases h1:v[i] <0
   .have:decide (0<=v[i])=false:=(by simpa using h1);simp only[h1,this,decide_true,aj,af,Bool.false_and,Bool.not_false,Option.map_some]
   .have:decide (0<=v[i])=true:=(by simpa using h1);simp only[h1,this,decide_false,ak,af,Bool.true_and];by_cases h2:v[i]>=(M[i].length:Int)
    .have:decide (v[i] <(M[i].length:Int))=false:=(by simpa using h2);simp only[h2,this,decide_true,aj,Bool.not_false,Option.map_some]
    .have:decide (v[i] <(M[i].length:Int))=true:=(by simp only[aJ];omega);simp only[h2,this,decide_false,ak,Bool.not_true]) (by
   rw[List.length_range];have e:decide ((M.length:Int)<(v.length:Int))=false:=(by simp;omega);simp only[gK,e,ak]) n (by simpa using hn)
  rw[show ((0:Nat):Int)=0 from rfl]at key;simp only[e1,ak,key];simp only[hl,decide_true,Bool.true_and];have hf:=K4 (Zg M v) (List.range M.length);cases hx:jA (λ i=>!(Zg M v i)) (List.range M.length)with
  |some i=>rw[hx]at hf;simp only at hf;simp only[jy];rw[<- hf]
  |none=>rw[hx]at hf;simp only at hf;simp only[dU];rw[<- hf]
 .have e1:((v.length:Int) !=(M.length:Int))=true:=by simp;omega
  simp[e1,hl]
theorem agE{V:Type}(k k':Int)(v:V):∀l:U (Int×V),fI pT k (qg pT k' v l)=if k=k' then some v else fI pT k l
 |[]=>by
  by_cases h:k=k'
  .simp[fI,qg,pT,h]
  .have h':(k==k')=false:=(by simpa using h);simp[fI,qg,pT,h,h']
 |p::r=>by
  have ih:=agE k k' v r;by_cases h1:k'=p.1
  .subst h1;by_cases h2:k=p.1
   .simp[qg,fI,pT,h2]
   .have h2':(k==p.1)=false:=(by simpa using h2);simp[qg,fI,pT,h2,h2']
  .have h1':(k'==p.1)=false:=(by simpa using h1);by_cases h2:k=p.1
   .have h3:¬p.1=k':=λh=>h1 h.symm;simp[qg,fI,pT,h1',h2,h3]
   .have h2':(k==p.1)=false:=(by simpa using h2);simp only[qg,pT,h1',ak,fI,h2'];simpa only[pT]using ih
def Zh(l:U aV):U (Int×Bool):=l.foldl (λ m c=>qg pT c.id true m) []
theorem aiS(k:Int)(l:U aV):(fI pT k (Zh l)).getD false=l.any λc=>decide (k=c.id):=by
 have main:∀(l:U aV)(m:U (Int×Bool)),(fI pT k (l.foldl (λ m c=>qg pT c.id true m) m)).getD false=((l.any λc=>decide (k=c.id)) || (fI pT k m).getD false):=by
  intro l
  induction l with
  |nil=>intro m;simp
  |cons c l ih=>
   intro m;rw[foldl_cons,ih,agE,List.any_cons];by_cases h:k=c.id
   .simp[h]
   .rw[aW h];simp[h]
 have:=main l [];simpa[Zh,fI]using this
def R9(M:Mx)(base:U aV)(i:Nat):Bool:=match base[i]? with
 |some c=>!((base.take i).any λb=>decide (c.id=b.id))&&Ay M c.values
 |none=>false
def Zi(M:Mx)(base:U aV):Bool:=(List.range base.length).all (R9 M base)
noncomputable def fZ(os:U bL)(base:U aV):Mx×Bool:=match BR os with
 |some M=>if Zi M base=true then(M,decide (base.length<=2000))else([],false)
 |none=>([],false)
theorem PU{os:U bL}{M:Mx}(h:BR os=some M):M.length=os.length/\os.length<=12:=by
 unfold BR at h;split at h
 .rename_i h1;cases h;simp[h1.1]
 .cases h
theorem agF(hn:400<=n)(os:U bL)(hko:os.all uH=true)(base:U aV)(hb:base.length<n)(hb2:base.length<9223372036854775807):oV n os base=some (fZ os base):=by
 unfold oV fZ;rw[apr hn os hko];simp only[af];cases hr:BR os with
 |none=>
  simp only[W7];cases hbase:base with
  |nil=>
   have h1:iter (gP n [] (([]:Mx),false)) n ((0:Int),([]:U (Int×Bool)))=some (.inl ()):=by
    obtain⟨m,rfl⟩:∃m,n=m+1:=⟨n -1,by omega⟩;exact fJ rfl
   rw[h1];rfl
  |cons c r=>
   have h1:iter (gP n (c::r) (([]:Mx),false)) n ((0:Int),([]:U (Int×Bool)))=some (.inr ([],false)):=by
    obtain⟨m,rfl⟩:∃m,n=m+1:=⟨n -1,by omega⟩;refine fJ ?_;have e:decide ((0:Int)<(((c::r).length:Nat):Int))=true:=(by simp only[bn,aJ];omega);simp only[gP,e,aj,aj0 (l:=c::r) (by simp),af,Bool.not_false,Option.map_some]
   rw[h1];rfl
 |some M=>
  have⟨hM1,hM2⟩:=PU hr;simp only[W7];have key:=iL (l:=List.range base.length) (step:=gP n base (M,true)) (λ i=>((i:Int),Zh (base.take i))) (λ i=>!(R9 M base i)) () (λ _=>(([]:Mx),false)) (λ i hi=>by
   rw[List.length_range]at hi;have e:decide ((i:Int)<(base.length:Int))=true:=(by simpa using hi);simp only[gP,e,aj,bf hi,af,Bool.not_true,ak,aiS,List.getElem_range,R9,bX hi,bK,aD,Uw (n:=n) M _ (by omega) (by omega),aP i];have e4:Zh (base.take (i+1))=qg pT base[i].id true (Zh (base.take i)):=(by rw[fD hi];simp only[Zh,List.foldl_append,foldl_cons,List.foldl_nil]);rw[e4];cases (base.take i).any λc=>decide (base[i].id=c.id)with
   |true=>simp only[aj,af,Bool.not_true,Bool.false_and,Bool.not_false,Option.map_some]
   |false=>
    simp only[ak,af,Bool.not_false,Bool.true_and];cases Ay M base[i].values<;>rfl) (by
   rw[List.length_range];have e:decide ((base.length:Int)<(base.length:Int))=false:=(by simp);simp only[gP,e,ak]) n (by simpa using hb)
  simp only[List.take_zero]at key;rw[show ((0:Nat):Int)=0 from rfl,show Zh []=[]from rfl]at key;rw[key];have hf:=K4 (R9 M base) (List.range base.length);have e5:decide ((base.length:Int)<=2000)=decide (base.length<=2000):=by simp only[decide_eq_decide];omega
  cases hx:jA (λ i=>!(R9 M base i)) (List.range base.length)with
  |some i=>rw[hx]at hf;simp only at hf;simp only[jy];rw[aW (by unfold Zi;rw[<- hf];simp)]
  |none=>rw[hx]at hf;simp only at hf;simp only[dU,bK,aD,aj,e5];rw[aT (by unfold Zi;exact hf.symm)]
def Q1(M:Mx):Prop:=∀R∈M,∀r∈R,r.length=R.length
theorem akk{os:U bL}{M:Mx}(h:BR os=some M):Q1 M:=by
 unfold BR at h;split at h
 .cases h;intro R hR r hr;obtain⟨o,_,rfl⟩:=mem_map.1 hR;unfold qx at hr ⊢;obtain⟨a,_,rfl⟩:=mem_map.1 hr;simp
 .cases h
def wa(M:Mx)(a b:U Int)(i:Nat):Bool:=match M[i]?,a[i]?,b[i]? with
 |some R,some x,some y=>((R[x.toNat]?).bind λr=>r[y.toNat]?).getD false
 |_,_,_=>false
def WJ(M:Mx)(a b:U Int):U Int:=((List.range M.length).filter λi=>!(wa M a b i)).map λi:Nat=>(i:Int)
theorem anO{M:Mx}{v:U Int}(h:Ay M v=true){i:Nat}(hi:i<M.length):∃(x:Nat),v[i]? =some (x:Int)/\x<(M[i]'hi).length:=by
 simp only[Ay,aG,aJ,all_eq_true,List.mem_range]at h;have h2:=h.2 i hi;have hv:i<v.length:=by omega
 simp only[Zg,bX hv,bX hi,aG,aJ]at h2;exact⟨v[i].toNat,by rw[bX hv];congr 1;omega,by omega⟩
theorem acV{M:Mx}(hq:Q1 M){a b:U Int}(ha:Ay M a=true)(hb:Ay M b=true)(hn:M.length<n)(hm:M.length<=12):gU n M a b=some (WJ M a b):=by
 unfold gU WJ;have key:=gY (step:=iG M a b) (λ i=>((i:Int),((List.range i).filter λi=>!(wa M a b i)).map λi:Nat=>(i:Int))) (s:=((0:Int),([]:U Int))) M.length (((List.range M.length).filter λi=>!(wa M a b i)).map λi:Nat=>(i:Int)) (by simp) (λ i hi=>by
  have e:decide ((i:Int)<(M.length:Int))=true:=by simpa using hi
  have⟨x,hx1,hx2⟩:=anO ha hi;have⟨y,hy1,hy2⟩:=anO hb hi;have hr:(M[i][x]'hx2).length=M[i].length:=hq _ (getElem_mem hi) _ (getElem_mem hx2);have hle:wa M a b i=(M[i][x]'hx2)[y]'(by rw[hr];exact hy2):=by
   simp only[wa,bX hi,hx1,hy1,Int.toNat_natCast,bX hx2,af];rw[bX (by rw[hr];exact hy2)];rfl
  have hs1:sub ([(i:Int)]:U Int) 0 1=[(i:Int)]:=rfl;generalize hL:((List.range i).filter λi=>!(wa M a b i)).map (λ i:Nat=>(i:Int))=L;have hlen:L.length<=i:=by
   rw[<- hL,length_map];exact Nat.le_trans (length_filter_le _ _) (by simp)
  have hap:bP L.length L.length 1 1 8=true:=cu (by omega) (by simp only[maxLen];omega);have hN:((List.range (i+1)).filter λi=>!(wa M a b i)).map (λ i:Nat=>(i:Int))=L++(if wa M a b i=true then []else [(i:Int)]):=by
   rw[List.range_succ,filter_append,map_append,hL];cases h:wa M a b i<;>simp[h]
  rw[hN];simp only[iG,e,aj,bf hi,af,P1,hx1,hy1,bX hx2];rw[bX (show y<(M[i][x]'hx2).length by rw[hr];exact hy2),<- hle];simp only[af,aP i];cases wa M a b i with
  |true=>simp only[Bool.not_true,ak,aD,aj,af,if_true,append_nil]
  |false=>simp only[Bool.not_false,aj,hs1,length_singleton,hap,dY,aD,af];rfl) (by
  have e:decide ((M.length:Int)<(M.length:Int))=false:=by simp
  simp only[iG,e,ak,aD,aj]) n hn
 have hz:be 0 ([]:U Int).length=true:=rfl;simp only[hz,aj,key,af,bK,aD]
def Zj(M:Mx)(c:aV)(w:U Int):U Int:=bif c.grant then WJ M c.values w else WJ M w c.values
theorem agG{M:Mx}(hq:Q1 M){c:aV}{w:U Int}(ha:Ay M c.values=true)(hb:Ay M w=true)(hn:M.length<n)(hm:M.length<=12):iH n M c w=some (Zj M c w):=by
 unfold iH Zj;cases c.grant with
 |true=>simp only[aj,acV hq ha hb hn hm,af,bK,aD]
 |false=>simp only[ak,acV hq hb ha hn hm,af,bK,aD,aj]
def q9(M:Mx)(w:U Int)(c:aV):Bool:=(Zj M c w).isEmpty
theorem agH(M:Mx)(w:U Int)(c:aV):((((Zj M c w).length:Nat):Int)==0)=q9 M w c:=by
 unfold q9;cases Zj M c w with
 |nil=>rfl
 |cons x l=>simp only[bn,List.isEmpty_cons];simp;omega
def vA(l:U aV):U (Bool×Bool):=l.foldl (λ m c=>qg pC c.grant true m) []
theorem agI(k k' v:Bool):∀l:U (Bool×Bool),fI pC k (qg pC k' v l)=if k=k' then some v else fI pC k l
 |[]=>by cases k<;>cases k'<;>rfl
 |p::r=>by
  have ih:=agI k k' v r;obtain⟨p1,p2⟩:=p;by_cases h1:k'=p1
  .subst h1;by_cases h2:k=k'
   .simp[qg,fI,pC,h2]
   .have h2':(k==k')=false:=(by simpa using h2);simp[qg,fI,pC,h2,h2']
  .have h1':(k'==p1)=false:=(by simpa using h1);by_cases h2:k=p1
   .have h3:¬p1=k':=λh=>h1 h.symm;simp[qg,fI,pC,h1',h2,h3]
   .have h2':(k==p1)=false:=(by simpa using h2);simp only[qg,pC,h1',ak,fI,h2'];simpa only[pC]using ih
theorem alB(k:Bool)(l:U aV):(fI pC k (vA l)).getD false=l.any λc=>decide (k=c.grant):=by
 have main:∀(l:U aV)(m:U (Bool×Bool)),(fI pC k (l.foldl (λ m c=>qg pC c.grant true m) m)).getD false=((l.any λc=>decide (k=c.grant)) || (fI pC k m).getD false):=by
  intro l
  induction l with
  |nil=>intro m;simp
  |cons c l ih=>
   intro m;rw[foldl_cons,ih,agI,List.any_cons];by_cases h:k=c.grant
   .simp[h]
   .rw[aW h];simp[h]
 have:=main l [];simpa[vA,fI]using this
def p5(M:Mx)(base:U aV)(w:U Int)(g:Bool):Bool:=base.any λc=>q9 M w c&&decide (g=c.grant)
def Ux(M:Mx)(base:U aV)(w:U Int):Int:=bif p5 M base w true&&p5 M base w false then 3 else bif p5 M base w true then 1 else bif p5 M base w false then 2 else 0
def vI(M:Mx)(base:U aV)(w:U Int)(i:Nat):Bool:=match base[i]? with
 |some c=>q9 M w c
 |none=>false
def z8(M:Mx)(base:U aV)(w:U Int):U Int:=((List.range base.length).filter (vI M base w)).map λi:Nat=>(i:Int)
theorem U3(M:Mx)(base:U aV)(w:U Int)(g:Bool):((base.filter (q9 M w)).any λc=>decide (g=c.grant))=p5 M base w g:=by rw[List.any_filter];rfl
theorem alC{M:Mx}(hq:Q1 M){base:U aV}{w:U Int}(hv:∀c∈base,Ay M c.values=true)(hw:Ay M w=true)(hn:M.length<n)(hm:M.length<=12)(hb:base.length<n)(hb2:base.length<=2000):
 jE n M base w=some (Ux M base w,z8 M base w):=by
 unfold jE;have key:=gY (step:=iJ n M base w) (λ i=>((i:Int),vA ((base.take i).filter (q9 M w)),((List.range i).filter (vI M base w)).map λi:Nat=>(i:Int))) (s:=((0:Int),([]:U (Bool×Bool)),([]:U Int))) base.length (vA (base.filter (q9 M w)),z8 M base w) (by simp[vA]) (λ i hi=>by
  have e:decide ((i:Int)<(base.length:Int))=true:=by simpa using hi
  have hs1:sub ([(i:Int)]:U Int) 0 1=[(i:Int)]:=rfl;have hra:vI M base w i=q9 M w base[i]:=by simp[vI,hi]
  generalize hL:((List.range i).filter (vI M base w)).map (λ i:Nat=>(i:Int))=L;have hlen:L.length<=i:=by
   rw[<- hL,length_map];exact Nat.le_trans (length_filter_le _ _) (by simp)
  have hap:bP L.length L.length 1 1 8=true:=cu (by omega) (by simp only[maxLen];omega);have hN:((List.range (i+1)).filter (vI M base w)).map (λ i:Nat=>(i:Int))=L++(if q9 M w base[i]=true then [(i:Int)]else []):=by
   rw[List.range_succ,filter_append,map_append,hL,<- hra];cases h:vI M base w i<;>simp[h]
  have hB:vA ((base.take (i+1)).filter (q9 M w))=bif q9 M w base[i]then qg pC base[i].grant true (vA ((base.take i).filter (q9 M w)))else vA ((base.take i).filter (q9 M w)):=by
   rw[fD hi,filter_append];cases h:q9 M w base[i]with
   |true=>simp only[vA,List.filter_cons,h,if_true,List.filter_nil,List.foldl_append,foldl_cons,List.foldl_nil,aj]
   |false=>simp only[vA,List.filter_cons,h,List.filter_nil,append_nil,ak,Bool.false_eq_true,if_false]
  rw[hN,hB];simp only[iJ,e,aj,bf hi,af,agG hq (hv _ (getElem_mem hi)) hw hn hm,agH,aP i];cases q9 M w base[i]with
  |true=>simp only[aj,hs1,length_singleton,hap,dY,aD,af,if_true]
  |false=>simp only[ak,aD,aj,af,Bool.false_eq_true,if_false,append_nil]) (by
  have e:decide ((base.length:Int)<(base.length:Int))=false:=by simp
  simp only[iJ,e,ak,aD,aj,List.take_length];rfl) n hb
 have hz:be 0 ([]:U Int).length=true:=rfl;simp only[hz,aj,key,af,alB,U3];unfold Ux;cases h1:p5 M base w true with
 |true=>
  cases h2:p5 M base w false with
  |true=>simp only[aj,af,bK,aD,Bool.and_self]
  |false=>simp only[aj,af,ak,bK,aD,Bool.and_false]
 |false=>
  cases h2:p5 M base w false with
  |true=>simp only[aj,af,ak,bK,aD,Bool.false_and]
  |false=>
   simp only[ak,af,Bool.false_and];have:z8 M base w=[]:=by
    unfold z8;have:(List.range base.length).filter (vI M base w)=[]:=by
     rw[List.filter_eq_nil_iff];intro i hi hr;rw[List.mem_range]at hi;simp only[vI,bX hi]at hr;cases hg:base[i].grant with
     |true=>
      have:p5 M base w true=true:=(by unfold p5;rw[any_eq_true];exact⟨_,getElem_mem hi,by simp[hr,hg]⟩);rw[h1]at this;cases this
     |false=>
      have:p5 M base w false=true:=(by unfold p5;rw[any_eq_true];exact⟨_,getElem_mem hi,by simp[hr,hg]⟩);rw[h2]at this;cases this
    rw[this];rfl
   rw[this]
theorem agJ{M:Mx}{base:U aV}(h:Zi M base=true):∀c∈base,Ay M c.values=true:=by
 intro c hc;obtain⟨i,hi,rfl⟩:=mem_iff_getElem.1 hc;simp only[Zi,all_eq_true,List.mem_range]at h;have:=h i hi;simp only[R9,bX hi,aG]at this;exact this.2
theorem Nf{os:U bL}{base:U aV}(h:(fZ os base).2=true):∃M,fZ os base=(M,true)/\BR os=some M/\Zi M base=true/\base.length<=2000:=by
 unfold fZ at h ⊢;cases hr:BR os with
 |none=>rw[hr]at h;cases h
 |some M=>
  rw[hr]at h;simp only at h ⊢;split at h
  .rename_i h1;rw[aT h1];simp only at h;exact⟨M,by rw[h],rfl,h1,of_decide_eq_true h⟩
  .cases h
noncomputable def cZ(os:U bL)(base:U aV)(w:U Int):Int×List Int×Int:=
 bif(fZ os base).2&&Ay (fZ os base).1 w then(Ux (fZ os base).1 base w,z8 (fZ os base).1 base w,0)else(0,[],1)
theorem akl(hn:400<=n){os:U bL}{base:U aV}{w:U Int}(r:Mx×Bool)(hr:r=fZ os base):
 ((bif (!r.2)then some true else(ck (be (sub r.1 0 r.1.length).length r.1.length) ((eD n (sub r.1 0 r.1.length) w).bind λr2=>some (!r2)))):J Bool)=some (!((fZ os base).2&&Ay (fZ os base).1 w)):=by
 subst hr;cases h:(fZ os base).2 with
 |false=>simp
 |true=>
  have⟨M,h1,h2,h3,h4⟩:=Nf h;rw[h1];have:=PU h2;simp only[Bool.not_true,ak,bK,aD,aj,Uw (n:=n) M w (by omega) (by omega),af,Bool.true_and]
theorem alD(hn:400<=n)(os:U bL)(hko:os.all uH=true)(base:U aV)(w:U Int)(hb:base.length<n)(hb2:base.length<9223372036854775807):qM n os base w=some (cZ os base w):=by
 unfold qM cZ;rw[agF hn os hko base hb hb2];simp only[af];rw[akl hn _ rfl];simp only[af];cases h:(fZ os base).2&&Ay (fZ os base).1 w with
 |false=>simp
 |true=>
  simp only[aG]at h;have⟨M,h1,h2,h3,h4⟩:=Nf h.1;rw[h1]at h ⊢;have:=PU h2;simp only[Bool.not_true,ak,bK,aD,aj,alC (akk h2) (agJ h3) h.2 (n:=n) (by omega) (by omega) hb h4,af]
theorem Sb{l:U aV}(h:l.length<1099511627776):Cr l=some l:=xE (b:=40) (by omega) (by simp only[maxLen];omega)
theorem JX{l:U aV}{φ:(aV×Unit)->J Bool}(p:aV->Bool)(h:∀x∈l,φ (x,())=some (p x))(hl:l.length<1099511627776)(hn:l.length<n):u6 n l φ=some (zI p l):=fT p h hl hn
theorem Ep{l:U aV}{φ:(aV×Unit)->J Bool}(p:aV->Bool)(h:∀x∈l,φ (x,())=some (p x))(hl:l.length<1099511627776)(hn:l.length<n):l6 n l φ=some (l.any p):=by
 unfold l6;rw[JX p h hl hn];simp only[af,uL]
def Zk(l:U aV):Prop:=l.length<1000/\∀c∈l,c.values.length<1000
theorem acW{c:aV}(h:c.values.length<1000):oW c=some c:=by
 unfold oW;rw[yc (by omega)];simp only[af,bK,aD,aj]
theorem alE{l:U aV}(h:Zk l)(hn:1000<=n):nM n l=some l:=by
 unfold nM;obtain⟨h1,h2⟩:=h;rw[Sb (by omega)];have key:=gY (step:=pY l) (λ i=>((i:Int),l)) (s:=((0:Int),l)) l.length l rfl (λ i hi=>by
  have e:decide ((i:Int)<(l.length:Int))=true:=by simpa using hi
  have hv:=h2 _ (getElem_mem hi);have hs:l.set (((0:Nat):Int)+(i:Int)).toNat (aV.mk l[i].id l[i].values l[i].grant)=l:=by
   have:(((0:Nat):Int)+(i:Int)).toNat=i:=(by omega);rw[this];exact List.set_getElem_self hi
  simp only[pY,e,aj,bE hi,bJ hi,af,yc (show l[i].values.length<1099511627776 by omega),bK,aD,hs,aP i]) (by
  have e:decide ((l.length:Int)<(l.length:Int))=false:=by simp
  simp only[pY,e,ak]) n (by omega)
 simp only[af,key,bK,aD,aj]
def Kf(M:Mx)(base:U aV)(c:aV):U aV×Int:=
 bif base.any (λ d=>d.id==c.id)then([],5)else bif base.any (λ d=>!(d.grant==c.grant)&&q9 M c.values d)then([],25)else(base++[c],0)
noncomputable def U4(os:U bL)(base:U aV)(c:aV):U aV×Int:=
 bif(fZ os base).2&&Ay (fZ os base).1 c.values then Kf (fZ os base).1 base c else([],1)
theorem aqB(hn:1000<=n)(os:U bL)(hko:os.all uH=true){base:U aV}(hb:Zk base){c:aV}(hc:c.values.length<1000):wP n os base c=some (U4 os base c):=by
 obtain⟨hb1,hb2⟩:=hb;unfold wP U4;rw[agF (by omega) os hko base (by omega) (by omega)];simp only[af];rw[akl (by omega) _ rfl];simp only[af];cases h:(fZ os base).2&&Ay (fZ os base).1 c.values with
 |false=>rfl
 |true=>
  simp only[aG]at h;have⟨M,g1,g2,g3,g4⟩:=Nf h.1;rw[g1]at h ⊢;have hl:=PU g2;have hz:be 0 ([]:U aV).length=true:=rfl;simp only[Bool.not_true,ak,aj];rw[Ep (λ d=>d.id==c.id) (λ x _=>rfl) (by omega) (by omega)];have e1:decide ((base.length:Int)>=2000)=false:=by simp;omega
  simp only[af,e1,ak,hz,aj];unfold Kf;cases base.any (λ d=>d.id==c.id)with
  |true=>rfl
  |false=>
   simp only[ak];have key:=iL (l:=base) (step:=qN n base c (M,true)) (λ i=>((i:Int),base.take i)) (λ d=>!(d.grant==c.grant)&&q9 M c.values d) base (λ _=>(([]:U aV),(25:Int))) (λ i hi=>by
    have e:decide ((i:Int)<(base.length:Int))=true:=(by simpa using hi);have hs1:sub ([base[i]]:U aV) 0 1=[base[i]]:=rfl;have hlen:(base.take i).length=i:=(by simp;omega);have hap:bP i i 1 1 40=true:=cu (by omega) (by simp only[maxLen];omega);simp only[qN,e,aj,bf hi,af,bK,aD,agG (akk g2) (agJ g3 _ (getElem_mem hi)) h.2 (n:=n) (by omega) (by omega),agH,acW (hb2 _ (getElem_mem hi)),hs1,length_singleton,hlen,hap,dY,aP i];rw[fD hi];cases base[i].grant==c.grant with
    |true=>simp only[Bool.not_true,ak,af,Bool.false_and]
    |false=>
     simp only[Bool.not_false,aj,af,Bool.true_and];cases q9 M c.values base[i]<;>rfl) (by
    have e:decide ((base.length:Int)<(base.length:Int))=false:=(by simp);simp only[qN,e,ak,aD,aj,List.take_length]) n (by omega)
   simp only[List.take_zero]at key;rw[show ((0:Nat):Int)=0 from rfl]at key;rw[key,<- jf];have hs1:sub ([c]:U aV) 0 1=[c]:=rfl;have hap:bP base.length base.length 1 1 40=true:=cu (by omega) (by simp only[maxLen];omega);cases jA (λ d=>!(d.grant==c.grant)&&q9 M c.values d) base with
   |some i=>rfl
   |none=>simp only[dU,acW hc,af,hs1,length_singleton,hap,aj,dY,bK,aD,Option.isSome_none,ak]
noncomputable def ku(os:U bL)(base:U aV)(id:Int)(values:U Int)(fW:Bool):Bool×List aV×Int:=
 bif(cZ os base values).2.2 !=0 then(false,base,1)else bif(cZ os base values).1==3 then(false,base,25)else
  bif(U4 os base (aV.mk id values (bif (cZ os base values).1==1 then true else bif(cZ os base values).1==2 then false else fW))).2 !=0 then(false,base,(U4 os base (aV.mk id values (bif (cZ os base values).1==1 then true else bif(cZ os base values).1==2 then false else fW))).2)
  else((bif (cZ os base values).1==1 then true else bif(cZ os base values).1==2 then false else fW),(U4 os base (aV.mk id values (bif (cZ os base values).1==1 then true else bif(cZ os base values).1==2 then false else fW))).1,0)
theorem Er(hn:1000<=n)(os:U bL)(hko:os.all uH=true){base:U aV}(hb:Zk base)(id:Int){values:U Int}(hv:values.length<1000)(fW:Bool):gL n os base id values fW=some (ku os base id values fW):=by
 have hg:∀f:Int,((bif f==1 then some true else(bif f==2 then some false else some fW)):J Bool)=some (bif f==1 then true else bif f==2 then false else fW):=λf=>by cases f==1<;>cases f==2<;>rfl
 unfold gL ku;rw[alD (by omega) os hko base values (by have:=hb.1;omega) (by have:=hb.1;omega)];simp only[af,alE hb hn,bK,aD,aj,hg,yc (show values.length<1099511627776 by omega)];generalize (bif (cZ os base values).1==1 then true else bif(cZ os base values).1==2 then false else fW)=g;rw[aqB hn os hko hb (c:=aV.mk id values g) hv];simp only[af];cases (cZ os base values).2.2 !=0 with
 |true=>rfl
 |false=>
  cases (cZ os base values).1==3 with
  |true=>rfl
  |false=>
   simp only[ak];cases (U4 os base (aV.mk id values g)).2 !=0<;>rfl
end Go.Proofs
