import Derived.Test.YtnclkjejgffdmaaGreatTD1
open Go.IntKind (i64)
open List (length_take mem_map all_eq_true getElem_mem length_map mem_iff_getElem length_drop length_nil foldl_cons take_of_length_le any_eq_true pairwise_cons length_filter_le map_append pairwise_append getElem_drop)
namespace Go.Proofs
open Go.Gb Go.RowKit
variable {n:Nat}
theorem kK(a b:Int):cmp_Compare_int a b=some (if a<b then -1 else if b<a then 1 else 0):=by by_cases h1:a<b;simp[cmp_Compare_int,cmp_isNaN_int,h1];by_cases h2:b<a;simp[cmp_Compare_int,cmp_isNaN_int,h1,h2];simp[cmp_Compare_int,cmp_isNaN_int,h1,h2]
theorem kL{l:List Int}(hl:l.length<1099511627776)(_:l.length<n):lN n l=some (ko oX l):=by show N1 l=_;unfold N1;rw[Nat.ble_eq_true_of_le (show l.length<=1099511627775 by omega),aj]
theorem mE{l:List Int}(hl:l.length<1099511627776)(hn:l.length<n):kF n l=some ((),iG l):=by rw[<- aeH];exact Zu (eq:=λx y=>x==y) (ne:=λx y=>x !=y) (λ x y=>by simp[bne]) hl hn
theorem Tt{l:List Int}{a:Int}(hl:l.length<1099511627776)(hn:l.length<n):EC n l a=some (qW (λ x=>a==x) l):=Ih hl hn
theorem zf{l:List Int}{a:Int}(hl:l.length<1099511627776)(hn:l.length<n):oI n l a=some (l.any λx=>a==x):=by unfold oI;rw[Tt hl hn,ai,pE]
theorem u7{l:List bO}{φ:(bO×Unit)->Option Bool}(p:bO->Bool)(h:∀x∈l,φ (x,())=some (p x))(hl:l.length<1099511627776)(hn:l.length<n):nQ n l φ=some (qW p l):=fF p h hl hn
theorem ve{l:List aZ}{φ:(aZ×Unit)->Option Bool}(p:aZ->Bool)(h:∀x∈l,φ (x,())=some (p x))(hl:l.length<1099511627776)(hn:l.length<n):iT n l φ=some (qW p l):=fF p h hl hn
theorem Df{l:List ax}(h:l.length<1099511627776):Bq l=some l:=Aj (b:=32) (by omega) (by simp[maxLen];omega)
theorem Ot{l:List (List ax)}(hf:l.flatten.length<1099511627776)(hl:l.length<1099511627776)(hn:l.length<n):yU n l=some l.flatten:=NC (ax.mk 0 0 0 0) (b:=32) hf (by omega) hl hn
theorem Dg{a b:List ax}(hl:a.length<1099511627776)(hn:a.length<n):oZ n a b=some (decide (a=b)):=by
 have e:oZ n a b=ND n (λ x1 x2:ax=>!((x1.x0==x2.x0)&&((x1.y0==x2.y0)&&((x1.x1==x2.x1)&&((x1.y1==x2.y1)&&true))))) a b:=by kernel_rfl
 rw[e];refine Ii (λ x y=>?_) hl hn;obtain⟨a,b,c,d⟩:=x;obtain⟨e,f,g,h⟩:=y;simp;rw[eH];simp
theorem Dh{a b:List aN}(hl:a.length<1099511627776)(hn:a.length<n):vX n a b=some (decide (a=b)):=by
 have e:vX n a b=ND n (λ x1 x2:aN=>!((x1.from_==x2.from_)&&((x1.to==x2.to)&&true))) a b:=by kernel_rfl
 rw[e];refine Ii (λ x y=>?_) hl hn;obtain⟨a,b⟩:=x;obtain⟨c,d⟩:=y;simp;rw[eH];simp
abbrev t7(a b:aN):Bool:=decide (a.from_<b.from_)
theorem Ou:Go.Sort.SWO t7 where
 irrefl x:=by simp[t7]
 trans x y z h1 h2:=by simp only[t7,bD]at *;omega
 ntrans x y z h1 h2:=by simp only[t7,fH]at *;omega
theorem Kg{l:List aN}{φ:(aN×aN×Unit)->Option Int}(f:aN->aN->Int)(hφ:∀x y,φ (x,y,())=some (f x y))(hf:∀x y,decide (f x y<0)=t7 x y)(hl:l.length<1099511627776)(_:l.length<n):vI n l φ=some (jk t7 l):=
 aeS f hφ hf Ou hl
theorem ai9{V O:Type}{step:V->Option (V⊕O)}(Inv:V->Prop)(Post:O->Prop)(μ:V->Nat)
 (h:∀v,Inv v->(∃ v',step v=some (.inl v')/\Inv v'/\μ v'< μ v)\/∃o,step v=some (.inr o)/\Post o):∀(n:Nat)(v:V),Inv v->μ v<n->∃o,iter step n v=some o/\Post o
 | 0,_,_,hn=>absurd hn (Nat.not_lt_zero _)
 |n+1,v,hi,hn=>by rcases h v hi with ⟨v',h1,h2,h3⟩ |⟨o,h1,h2⟩;rw[jI h1];exact ai9 Inv Post μ h n v' h2 (by omega);exact⟨o,fD h1,h2⟩
theorem IK:∀(N:Nat)(l:List Nat),l.Nodup->(∀ y∈l,y<N)->l.length<=N
 | 0,[],_,_=>aB _
 | 0,x::l,_,h=>absurd (h x (by simp)) (by omega)
 |N+1,l,hn,h=>by
  have h1:=IK N (l.filter λy=>decide (y≠N)) (hn.filter _) (λ y hy=>by rw[List.mem_filter]at hy;have:=h y hy.1;have:=hy.2;simp at this;omega);have h2:=List.length_eq_countP_add_countP (λ y=>decide (y≠N)) (l:=l);rw[List.countP_eq_length_filter]at h2;have h3:List.countP (λ a=>decide ¬(decide (a≠N)=true)) l=l.count N:=by rw[List.count];refine List.countP_congr λy _=>?_;simp
  have h4:=List.nodup_iff_count.1 hn N;omega
def Zz(us:List (List Int))(N:Nat):Prop:=us.length=N/\N<=4000000/\∀l∈us,l.length<=4000000/\∀k∈l,0<=k/\k<N
structure BI(us:List (List Int))(N to h:Nat)(d:List Int)(F:List Nat):Prop where
 dl:d.length=N
 nd:F.Nodup
 rg:∀x∈F,x<N
 mem:∀i:Nat,i<N->(0<=d.getD i 0↔i∈F)
 ub:∀j x:Nat,F[j]? =some x->d.getD x 0<=(j:Int)
 pre:∀j x:Nat,F[j]? =some x->0<j->∃p y:Nat,p<j/\F[p]? =some y/\(y:Int)∈us.getD x []/\d.getD y 0=d.getD x 0 -1
 hd:F[0]? =some to/\d.getD to 0=0
 hh:h<=F.length
 cl:∀p y:Nat,p<h->F[p]? =some y->∀i:Nat,i<N->(y:Int)∈us.getD i []->0<=d.getD i 0
theorem BI.len{us:List (List Int)}{N to h:Nat}{d:List Int}{F:List Nat}(b:BI us N to h d F):F.length<=N:=by exact IK N F b.nd b.rg
theorem BI.push{us:List (List Int)}{N to h:Nat}{d:List Int}{F:List Nat}(b:BI us N to h d F){i x p:Nat}(hi:i<N)(hd:d.getD i 0<0)(hp:F[p]? =some x)(hx:(x:Int)∈us.getD i []):
 BI us N to h (d.set i (d.getD x 0+1)) (F++[i]):=by
 have hiF:i∉F:=λhm=>by have:=(b.mem i hi).2 hm;omega
 have Vc:x∈F:=bR hp;have hne:∀y,y∈F->i≠y:=λy hy e=>hiF (e ▸ hy);have hset:∀y,y∈F->(d.set i (d.getD x 0+1)).getD y 0=d.getD y 0:=λy hy=>by simp[List.getElem?_set_ne (hne y hy)]
 have wx:(d.set i (d.getD x 0+1)).getD i 0=d.getD x 0+1:=by
  have:i<d.length:=by rw[b.dl];exact hi
  simp[this]
 have hx0:0<=d.getD x 0:=(b.mem x (b.rg x Vc)).2 Vc;have hlt:p<F.length:=(bZ.1 hp).1;refine⟨by simpa using b.dl,?_,?_,?_,?_,?_,?_,?_,?_⟩;rw[List.nodup_append];exact⟨b.nd,by simp,λa ha c hc=>by simp at hc;subst hc;exact λe=>hiF (e ▸ ha)⟩;intro y hy;rw[bM]at hy;rcases hy with hy |hy;exact b.rg y hy;simp at hy;omega;intro j hj;by_cases e:i=j;subst e;rw[wx];exact⟨λ _=>by simp,λ_=>by omega⟩;simp only[List.getD,List.getElem?_set_ne e];rw[bM];have:=b.mem j hj;simp at this;rw[this];simp[Ne.symm e];intro j y hy;rw[List.getElem?_append]at hy;split at hy;rw[hset y (bR hy)];exact b.ub j y hy;rename_i hj;have:y=i/\j=F.length:=by
  cases h:j -F.length with
  |zero=>rw[h]at hy;simp at hy;exact⟨hy.symm,by omega⟩
  |succ z=>rw[h]at hy;simp at hy
 obtain⟨rfl,rfl⟩:=this;rw[wx];have:=b.ub p x hp;omega;intro j y hy hj;rw[List.getElem?_append]at hy;split at hy;have⟨p',y',h1,h2,h3,h4⟩:=b.pre j y hy hj;exact⟨p',y',h1,by rw[List.getElem?_append_left (by have:=(bZ.1 h2).1;exact this)];exact h2,h3,by rw[hset y' (bR h2),hset y (bR hy)];exact h4⟩;rename_i hj';have:y=i/\j=F.length:=by
  cases h:j -F.length with
  |zero=>rw[h]at hy;simp at hy;exact⟨hy.symm,by omega⟩
  |succ z=>rw[h]at hy;simp at hy
 obtain⟨rfl,rfl⟩:=this;exact⟨p,x,hlt,by rw[List.getElem?_append_left hlt];exact hp,hx,by rw[wx,hset x Vc];omega⟩;have h0:=(bZ.1 b.hd.1).1;exact⟨by rw[List.getElem?_append_left h0];exact b.hd.1,by rw[hset _ (bR b.hd.1)];exact b.hd.2⟩;have:=b.hh;simp;omega;intro p' y hp' hy j hj hm;rw[List.getElem?_append_left (by have:=b.hh;omega)]at hy;have:=b.cl p' y hp' hy j hj hm;rw[hset j ((b.mem j hj).1 this)];exact this
theorem p4{α:Type}(o:Nat)(l:List α):V7 o l=l.drop o:=by cases o<;>simp[V7]
def BS(us:List (List Int))(N to h x:Nat):(Int×Int×List Int×List Int)->Prop
 |(v4,v5,d,v7)=>∃(o i:Nat)(F:List Nat),v4=o/\v5=i/\o<=v7.length/\v7.drop o=(F.drop (h+1)).map (λ k:Nat=>(k:Int))/\i<=N/\BI us N to h d F/\F[h]? =some x/\∀i',i'<i->(x:Int)∈us.getD i' []->0<=d.getD i' 0
theorem aoe{n N to h x:Nat}{a0:pX}{r1:List Int}(hg:Zz a0.uses N)(hr:r1.length=N)(hn:4000001<=n)(v:Int×Int×List Int×List Int)(hv:BS a0.uses N to h x v):
 (∃ v',fM n a0 r1 x v=some (.inl v')/\BS a0.uses N to h x v'/\N -v'.2.1.toNat<N -v.2.1.toNat)\/
 ∃q,fM n a0 r1 x v=some (.inr q)/\∃(o:Nat)(F:List Nat),q.1=(o:Int)/\o<=q.2.2.length/\q.2.2.drop o=(F.drop (h+1)).map (λ k:Nat=>(k:Int))/\BI a0.uses N to (h+1) q.2.1 F:=by
 obtain⟨v4,v5,d,v7⟩:=v;obtain⟨o,i,F,rfl,rfl,ho,hq,hi,hb,hx,hc⟩:=hv;have hx':x<N:=hb.rg x (bR hx);have At:=hg.1;have hdl:=hb.dl;by_cases hlt:i<N;left;have xl:i<a0.uses.length:=by omega
 have hl:=hg.2.2 a0.uses[i] (getElem_mem xl);have hcon:=zf (n:=n) (l:=a0.uses[i]) (a:=(x:Int)) (by omega) (by omega);have hud:a0.uses.getD i []=a0.uses[i]:=by simp[xl]
 have hdi:d[i]'(by omega)=d.getD i 0:=by simp[show i<d.length by omega]
 have Hd:d[x]'(by omega)=d.getD x 0:=by simp[show x<d.length by omega]
 simp only[fM,show decide ((i:Int)<((a0.uses.length:Int)))=true from by simp;omega,aj,aU xl,ai,bA (show i<r1.length by omega),bA (show x<r1.length by omega),
  bH (show i<d.length by omega),bH (show x<d.length by omega),hcon,hdi,Hd]
 have hFl:=hb.len;have hN:=hg.2.1;have hlen:v7.length -o=F.length -(h+1):=by have:=congrArg List.length hq;simpa using this
 have hmx:maxLen=9223372036854775807:=rfl;by_cases hA:d.getD i 0<0/\(x:Int)∈a0.uses[i];have h1:(a0.uses[i].any λy=>(x:Int)==y)=true:=any_eq_true.2 ⟨_,hA.2,by simp⟩;have hx0:0<=d.getD x 0:=(hb.mem x hx').2 (bR hx);have hxu:=hb.ub h x hx;have XS:h<F.length:=(bZ.1 hx).1;have hap:bK (v7.drop o).length (v7.length -o) (sub [(i:Int)] 0 1).length 1 8=true:=by simp[bK,sub];omega
 have hw:i64.wrap (d.getD x 0+1)=d.getD x 0+1:=dw (by omega) (by omega);refine⟨(((0:Nat):Int),((i+1:Nat):Int),d.set i (d.getD x 0+1),v7.drop o++[(i:Int)]),?_,?_,by show N -((i+1:Nat):Int).toNat<N -(i:Int).toNat;omega⟩;simp only[hA.1,decide_true,aj,ai,h1,Int.toNat_natCast,p4,hap,fu,hw,aX i];simp[sub];refine⟨0,i+1,F++[i],rfl,rfl,Nat.zero_le _,?_,by omega,hb.push hlt hA.1 hx (by rw[hud];exact hA.2),by rw[List.getElem?_append_left XS];exact hx,?_⟩;rw[List.drop_zero,hq,List.drop_append_of_le_length (by omega)];simp;intro i' hi' hm;have hpush:=hb.push hlt hA.1 hx (by rw[hud];exact hA.2);by_cases e:i'=i;subst e;exact(hpush.mem i' hlt).2 (by simp);have:=hc i' (by omega) hm;exact(hpush.mem i' (by omega)).2 (List.mem_append_left _ ((hb.mem i' (by omega)).1 this));have hB:(bif decide (d.getD i 0<0)then some (a0.uses[i].any λy=>(x:Int)==y)else some false)=some false:=by
  by_cases h2:d.getD i 0<0;simp only[h2,decide_true,aj,bJ];cases hc:(a0.uses[i].any λy=>x==y)with
  |false=>rfl
  |true=>
   obtain⟨y,hy,e⟩:=any_eq_true.1 hc;obtain rfl:x=y:=(by simpa using e);exact absurd ⟨h2,hy⟩ hA
  simp only[h2,decide_false,au]
 refine⟨(o,(i+1:Nat),d,v7),?_,?_,by show N -((i+1:Nat):Int).toNat<N -(i:Int).toNat;omega⟩;rw[hB];simp[Qk (show o+(v7.length -o)=v7.length by omega),aX i];refine⟨o,i+1,F,rfl,rfl,ho,hq,by omega,hb,hx,λi' hi' hm=>?_⟩;by_cases e:i'=i;subst e;rw[hud]at hm;exact Int.not_lt.1 λh2=>hA ⟨h2,hm⟩;exact hc i' (by omega) hm;right;have hiN:i=N:=by omega
 have XS:h<F.length:=(bZ.1 hx).1;refine⟨(o,d,v7),?_,o,F,rfl,ho,hq,?_⟩;simp only[fM,show decide ((i:Int)<(a0.uses.length))=false from by simp;omega,au,Int.toNat_natCast,Qk (show o+(v7.length -o)=v7.length by omega),aj];refine⟨hb.dl,hb.nd,hb.rg,hb.mem,hb.ub,hb.pre,hb.hd,XS,λp y hp hy j hj hm=>?_⟩;by_cases e:p=h;subst e;rw[hx]at hy;cases hy;exact hc j (by omega) hm;exact hb.cl p y (by omega) hy j hj hm
def BO(us:List (List Int))(N to h:Nat):(Int×List Int×List Int)->Prop
 |(v1,d,v3)=>∃(o:Nat)(F:List Nat),v1=o/\o<=v3.length/\v3.drop o=(F.drop h).map (λ k:Nat=>(k:Int))/\BI us N to h d F
theorem aof{n N to h:Nat}{a0:pX}{r1:List Int}(hg:Zz a0.uses N)(hr:r1.length=N)(hn:4000001<=n)(v:Int×List Int×List Int)(hv:BO a0.uses N to h v):
 (∃ v',dL n a0 r1 v=some (.inl v')/\BO a0.uses N to (h+1) v')\/∃d,dL n a0 r1 v=some (.inr d)/\∃F,BI a0.uses N to F.length d F:=by
 obtain⟨v1,d,v3⟩:=v;obtain⟨o,F,rfl,ho,hq,hb⟩:=hv;have hlen:v3.length -o=F.length -h:=by have:=congrArg List.length hq;simpa using this
 by_cases hlt:h<F.length;left;obtain⟨x,hx⟩:∃x,F[h]? =some x:=⟨_,dm hlt⟩;have hox:v3[o]? =some x:=by have:=congrArg (λ l=>l[0]?) hq;simpa[hx]using this
 have hdr:v3.drop (o+1)=(F.drop (h+1)).map (λ k:Nat=>(k:Int)):=by have:=congrArg (λ l=>l.drop 1) hq;simpa using this
 obtain⟨q,hq1,o2,F2,hq2,hq3,hq4,hq5⟩:=ai9 (BS a0.uses N to h x) (λ q:Int×List Int×List Int=>∃(o:Nat)(F:List Nat),q.1=o/\o<=q.2.2.length/\q.2.2.drop o=(F.drop (h+1)).map (λ k:Nat=>(k:Int))/\BI a0.uses N to (h+1) q.2.1 F)
  (λ v=>N -v.2.1.toNat) (aoe (r1:=r1) hg hr hn) n ((o+1:Nat),0,d,v3) ⟨o+1,0,F,rfl,rfl,by omega,hdr,Nat.zero_le _,hb,hx,λi' hi'=>absurd hi' (Nat.not_lt_zero _)⟩ (by have:=hg.2.1;simp;omega)
 obtain⟨w1,w2,w3⟩:=q;simp only at hq2 hq3 hq4 hq5;subst hq2;refine⟨(o2,w2,w3),?_,o2,F2,rfl,hq3,hq4,hq5⟩;have hat:bj v3 (o+0)=some (x:Int):=by rw[Int.add_zero,W9];exact hox
 simp only[dL,Int.toNat_natCast,show decide (((v3.length -o:Nat):Int)>0)=true from by simp;omega,aj,show cN 0 (v3.length -o)=true from by simp[cN];omega,hat,ai,
  yx (show 0<=1 by omega) (show (1:Int)<=(v3.length -o:Nat)by omega) (Int.le_refl _),Qk (show o+1+(v3.length -o -1)=v3.length by omega),hq1,Qk (show o2+(w3.length -o2)=w3.length by omega)]
 right;have hhF:h=F.length:=by have:=hb.hh;omega
 refine⟨d,?_,F,hhF ▸ hb⟩;simp only[dL,Int.toNat_natCast,show decide (((v3.length -o:Nat):Int)>0)=false from by simp;omega,au]
theorem eT{V O:Type}{step:V->Option (V⊕O)}(Inv:Nat->V->Prop)(Post:O->Prop)(K:Nat)(hK:∀k v,Inv k v->k<=K)
 (h:∀k v,Inv k v->(∃ v',step v=some (.inl v')/\Inv (k+1) v')\/∃o,step v=some (.inr o)/\Post o):∀(n k:Nat)(v:V),Inv k v->K<n+k->∃o,iter step n v=some o/\Post o
 | 0,k,v,hi,hn=>absurd (hK k v hi) (by omega)
 |n+1,k,v,hi,hn=>by rcases h k v hi with ⟨v',h1,h2⟩ |⟨o,h1,h2⟩;rw[jI h1];exact eT Inv Post K hK h n (k+1) v' h2 (by omega);exact⟨o,fD h1,h2⟩
theorem acN{n N to:Nat}{a0:pX}(hg:Zz a0.uses N)(hd:a0.defs.length=N)(hn:4000002<=n)(ht:to<N):∃d F,jV n a0 to=some d/\BI a0.uses N to F.length d F:=by
 have hN:=hg.2.1;have hr:q8 (sub ([(-1)]:List Int) 0 1) N=some (List.replicate N (-1)):=by show(ck (decide (0<=(N:Int))&&decide ((N:Int)<=1000000000000)) (some (List.replicate (N:Int).toNat (-1))))=_;rw[show decide (0<=(N:Int))=true by simp,show decide ((N:Int)<=1000000000000)=true by simp;omega];rfl
 have hlr:(List.replicate N (-1:Int)).length=N:=List.length_replicate;have hb0:BI a0.uses N to 0 ((List.replicate N (-1:Int)).set to 0) [to]:=by
  have hto:((List.replicate N (-1:Int)).set to 0).getD to 0=0:=by simp[ht]
  refine⟨by simp,by simp,λx hx=>by simp at hx;omega,λi hi=>?_,λj x hx=>?_,λj x hx hj=>?_,⟨rfl,hto⟩,by simp,λp y hp=>absurd hp (Nat.not_lt_zero _)⟩;by_cases e:to=i;subst e;rw[hto];simp;simp[List.getElem?_set_ne e];simp[hi,Ne.symm e];cases j with
  |zero=>simp at hx;subst hx;rw[hto];simp
  |succ j=>simp at hx
  cases j with
  |zero=>omega
  |succ j=>simp at hx
 obtain⟨d,h1,F,h2⟩:=eT (step:=dL n a0 (List.replicate N (-1))) (λ h v=>BO a0.uses N to h v) (λ d=>∃F,BI a0.uses N to F.length d F) N (λ h v ⟨_,_,_,_,_,hb⟩=>Nat.le_trans hb.hh hb.len) (λ h v hv=>aof (n:=n) (r1:=List.replicate N (-1)) hg hlr (by omega) v hv) n 0
  ((0:Nat),(List.replicate N (-1:Int)).set to 0,[to]) ⟨0,[to],rfl,Nat.zero_le _,rfl,hb0⟩ (by omega)
 refine⟨d,F,?_,h2⟩;have hdl:d.length=N:=h2.dl;have h1':iter (dL n a0 (List.replicate N (-1))) n (0,(List.replicate N (-1:Int)).set to 0,[to])=some d:=h1;simp only[jV,hd,hr,ai,hlr,bA ht,bH (show to<(List.replicate N (-1:Int)).length by omega),aj,show(((0:Nat):Int)+to).toNat=to by omega,h1];simp[sub,hdl];exact take_of_length_le (Nat.le_of_eq hdl)
def Nr(d:List Int)(l:List Int)(w:Int):Prop:=
 (w= -1/\∀k∈l,d.getD k.toNat 0<0)\/(w∈l/\0<=d.getD w.toNat 0/\∀k∈l,0<=d.getD k.toNat 0->d.getD w.toNat 0<=d.getD k.toNat 0)
theorem Nr.snoc{d l:List Int}{w k:Int}(h:Nr d l w)(hk:0<=k)(hl:∀x∈l,0<=x):Nr d (l++[k]) (if 0<=d.getD k.toNat 0/\(w<0\/d.getD k.toNat 0<d.getD w.toNat 0)then k else w):=by split;rename_i h1;refine .inr ⟨by simp,h1.1,λz hz h0=>?_⟩;rw[bM]at hz;rcases hz with hz |hz;rcases h with ⟨rfl,h⟩ |⟨hw,hw0,h⟩;have:=h z hz;omega;have h2:=h z hz h0;have:=hl w hw;rcases h1.2 with h3 |h3<;>omega;simp at hz;subst hz;exact Int.le_refl _;rename_i h1;rcases h with ⟨rfl,h⟩ |⟨hw,hw0,h⟩;refine .inl ⟨rfl,λz hz=>?_⟩;rw[bM]at hz;rcases hz with hz |hz;exact h z hz;simp at hz;subst hz;exact Int.not_le.1 λh2=>h1 ⟨h2,.inl (by omega)⟩;refine .inr ⟨List.mem_append_left _ hw,hw0,λz hz h0=>?_⟩;rw[bM]at hz;rcases hz with hz |hz;exact h z hz h0;simp at hz;subst hz;exact Int.not_lt.1 λh2=>h1 ⟨h0,.inr h2⟩
theorem aog{n N:Nat}{d l:List Int}(hd:d.length=N)(hl:l.length<=4000000)(hr:∀k∈l,0<=k/\k<N)(hn:4000001<=n):∃w,iter (iF d l) n (-1,0)=some w/\Nr d l w:=by
 refine eT (λ i (v:Int×Int)=>i<=l.length/\v.2=i/\Nr d (l.take i) v.1) (λ w=>Nr d l w) l.length (λ k v h=>h.1) ?_ n 0 _ ⟨Nat.zero_le _,rfl,.inl ⟨rfl,by simp⟩⟩ (by omega);rintro i ⟨v3,v4⟩ ⟨hi,rfl,hN⟩;by_cases hlt:i<l.length;left;have hk:=hr l[i] (getElem_mem hlt);obtain⟨k,hk2⟩:=Int.eq_ofNat_of_zero_le hk.1;have hkN:k<d.length:=by omega
 have IT:d[k]=d.getD k 0:=by simp[hkN]
 have htk:l.take (i+1)=l.take i++[l[i]]:=by rw[List.take_add_one,dm hlt];rfl
 have hlk:∀x∈l.take i,0<=x:=λx hx=>(hr x (List.mem_of_mem_take hx)).1;have hsn:=hN.snoc hk.1 hlk;refine⟨(if 0<=d.getD (l[i]).toNat 0/\(v3<0\/d.getD (l[i]).toNat 0<d.getD v3.toNat 0)then l[i]else v3,(i+1:Nat)),?_,hlt,rfl,by rw[htk];exact hsn⟩;simp only[iF,show decide ((i:Int)<l.length)=true from by simp;omega,aj,aU hlt,ai,hk2,bA hkN,bH hkN,IT,Int.toNat_natCast,aX i];by_cases h0:0<=d.getD k 0;by_cases h1:v3<0;simp only[h0,h1,decide_true,aj,ai,true_and,true_or,if_true];have hv:v3∈l.take i:=by rcases hN with ⟨rfl,_⟩ |⟨h,_⟩;omega;exact h
 have CE:=hr v3 (List.mem_of_mem_take hv);obtain⟨z,hz⟩:=Int.eq_ofNat_of_zero_le CE.1;subst hz;have Hb:z<d.length:=by omega
 have hgz:d[z]=d.getD z 0:=by simp[Hb]
 simp only[h0,decide_true,aj,h1,decide_false,au,bA Hb,bH Hb,ai,hgz,Int.toNat_natCast,true_and,false_or];by_cases h2:d.getD k 0<d.getD z 0;simp only[h2,decide_true,aj,if_true,ai];simp only[h2,decide_false,au,if_false,ai];simp only[h0,decide_false,au,ai,false_and,if_false];right;refine⟨v3,?_,?_⟩;simp only[iF,show decide ((i:Int)<l.length)=false from by simp;omega,au];rw[take_of_length_le (by omega)]at hN;exact hN
theorem BI.step{us:List (List Int)}{N to h:Nat}{d:List Int}{F:List Nat}(b:BI us N to h d F){x:Nat}(hx:x<N)(hne:x≠to)(h0:0<=d.getD x 0):∃y:Nat,(y:Int)∈us.getD x []/\d.getD y 0=d.getD x 0 -1/\0<=d.getD y 0:=by
 obtain⟨j,hj,hjx⟩:=mem_iff_getElem.1 ((b.mem x hx).1 h0);have hj':F[j]? =some x:=by rw[dm hj,hjx]
 have hj0:0<j:=by
  cases j with
  |zero=>rw[b.hd.1]at hj';cases hj';exact absurd rfl hne
  |succ j=>exact Nat.succ_pos _
 have⟨p,y,_,h2,h3,h4⟩:=b.pre j x hj' hj0;have hyF:=bR h2;exact⟨y,h3,h4,(b.mem y (b.rg y hyF)).2 hyF⟩
theorem akg{n N fr:Nat}{a1:List gH}{us:List (List Int)}(hg:Zz us N)(hd:a1.length=N)(hn:4000003<=n)(hf:fr<N):∃d F c,BI us N fr F.length d F/\jX n fr a1 us=some (a1,us,c)/\c.length<=N+1/\(c=[]->∀k∈us.getD fr [],d.getD k.toNat 0<0):=by
 obtain⟨d,F,hdi,hb⟩:=acN (n:=n) (a0:=pX.mk a1 us) hg hd (by omega) hf;have hN:=hg.2.1;have At:=hg.1;have hmx:maxLen=9223372036854775807:=rfl;have hloop:∃o,iter (kX n fr a1 us d) n (fr,[])=some o/\∃c,o= .inr (a1,us,c)/\c.length<=N+1/\(c=[]->∀k∈us.getD fr [],d.getD k.toNat 0<0):=by
  refine eT (λ k (v:Int×List ByteArray)=>∃at_:Nat,v.1=at_/\at_<N/\v.2.length=k/\k<=N/\((k=0/\at_=fr)\/(0<k/\at_≠fr/\0<=d.getD at_ 0/\d.getD at_ 0+k<=N))) _ N (λ k v ⟨_,_,_,_,h,_⟩=>h) ?_ n 0 _ ⟨fr,rfl,hf,rfl,Nat.zero_le _,.inl ⟨rfl,rfl⟩⟩ (by omega);rintro k ⟨v1,v2⟩ ⟨x,rfl,hx,hv2,hkN,hst⟩;simp at hv2;have hxa:x<a1.length:=by omega
  have hxu:x<us.length:=by omega
  have hl:=hg.2.2 us[x] (getElem_mem hxu);obtain⟨w,hw,hnr⟩:=aog (n:=n) (d:=d) (l:=us[x]) hb.dl hl.1 hl.2 (by omega);have hgu:us.getD x []=us[x]:=by simp[hxu]
  have hap:bK v2.length v2.length (sub [a1[x].name] 0 1).length 1 16=true:=by simp[bK,sub];omega
  simp only[kX,aU hxa,aU hxu,ai,hap,aj,fu,hw];have hsl:(v2++sub [a1[x].name] 0 1).length=k+1:=by simp[sub,hv2]
  have hne:((v2++sub [a1[x].name] 0 1).length==0)=false:=by rw[hsl];simp
  rcases hnr with ⟨rfl,hno⟩ |⟨hwm,hw0,hmin⟩;right;refine⟨.inr (a1,us,[]),by simp,[],rfl,by simp,λ_=>?_⟩;rcases hst with ⟨_,rfl⟩ |⟨_,UV,hx0,_⟩;rw[hgu];exact hno;have⟨y,hy,_,hy0⟩:=hb.step hx UV hx0;have hy':(y:Int)∈us[x]:=by rw[<- hgu];exact hy
  have:=hno _ hy';simp only[Int.toNat_natCast]at this;omega;have hwr:=hl.2 w hwm;obtain⟨z,rfl⟩:=Int.eq_ofNat_of_zero_le hwr.1;simp only[Int.toNat_natCast]at hw0 hmin;by_cases hzf:z=fr;right;subst hzf;refine⟨.inr (a1,us,v2++sub [a1[x].name] 0 1),?_,_,rfl,by omega,λh=>by rw[h]at hsl;simp at hsl⟩;simp only[show decide ((z:Int)<0)=false from by simp,au,beq_self_eq_true,aj,hne,Bool.not_false,Bool.true_and,aJ,Option.map_some];left;have Hb:z<N:=by omega
  have hb1:d.getD z 0+(k+1:Nat)<=N:=by rcases hst with ⟨hk0,rfl⟩ |⟨_,UV,hx0,hle⟩;have hzF:=(hb.mem z Hb).1 hw0;obtain⟨j,hj,hjz⟩:=mem_iff_getElem.1 hzF;have h3:=hb.ub j z (by rw[dm hj,hjz]);have:=hb.len;omega;have⟨y,hy,hyd,hy0⟩:=hb.step hx UV hx0;have:=hmin y (by rw[<- hgu];exact hy) (by simpa using hy0);simp only[Int.toNat_natCast]at this;omega
  refine⟨(z,v2++sub [a1[x].name] 0 1),?_,z,rfl,Hb,hsl,by omega,.inr ⟨Nat.succ_pos _,hzf,hw0,hb1⟩⟩;simp[show decide ((z:Int)<0)=false from by simp,show((z:Int)==fr)=false from by simp;omega]
 obtain⟨o,h1,c,rfl,h2⟩:=hloop;refine⟨d,F,c,hb,?_,h2⟩;simp only[jX,hdi,ai,h1];simp
theorem acO(a b:ByteArray):∃r,nV a b=some r:=by simp[nV,cmp_isNaN_string];cases (!a.toList==a.toList)<;>cases (!b.toList==b.toList)<;>cases V3 a b<;>cases (a.toList==b.toList)<;>exact⟨_,rfl⟩
theorem acP{a b:List ByteArray}(ha:a.length<=5000000)(hn:5000001<=n):∃r,l9 n a b=some r:=by
 obtain⟨o,h,_⟩:=eT (step:=l8 a b) (λ i v=>v=i/\i<=a.length) (λ _=>True) a.length (λ k v h=>h.2) (by
  rintro i v ⟨rfl,hi⟩;by_cases hlt:i<a.length;simp only[l8,show decide ((i:Int)<a.length)=true from by simp;omega,aj,aU hlt,ai];by_cases hb:i<b.length;have⟨r,hr⟩:=acO a[i] b[i];simp only[show decide ((i:Int)>=b.length)=false from by simp;omega,au,aU hb,ai,hr];cases hr0:(r !=0)with
  |true=>exact .inr ⟨_,rfl,trivial⟩
  |false=>exact .inl ⟨_,rfl,by rw[aP (by omega)],by omega⟩
  simp only[show decide ((i:Int)>=b.length)=true from by simp;omega,aj];exact .inr ⟨_,rfl,trivial⟩;simp only[l8,show decide ((i:Int)<a.length)=false from by simp;omega,au];exact .inr ⟨_,rfl,trivial⟩) n 0 0 ⟨rfl,Nat.zero_le _⟩ (by omega)
 simp only[l9,h];cases o with
 |inl u=>cases u;simp only[iy];cases decide ((a.length:Int)<b.length)<;>exact⟨_,rfl⟩
 |inr r=>exact⟨r,by simp⟩
def tI(us:List (List Int))(N j:Nat):Prop:=∃d F,BI us N j F.length d F/\∀k∈us.getD j [],d.getD k.toNat 0<0
theorem aeX{n N:Nat}{a0:List gH}{us:List (List Int)}(hg:Zz us N)(hd:a0.length=N)(hn:5000003<=n):∃c,iY n a0 us=some (a0,us,c)/\(c=[]->∀j,j<N->tI us N j)/\c.length<=N+1:=by
 have hN:=hg.2.1
 obtain⟨o,h1,c,rfl,h2⟩:=eT (step:=gV n a0) (λ i (v:Int×List gH×List (List Int)×List ByteArray)=>∃c,v=((i:Int),a0,us,c)/\i<=N/\c.length<=N+1/\(c=[]->∀j,j<i->tI us N j))
  (λ o=>∃c,o=(a0,us,c)/\(c=[]->∀j,j<N->tI us N j)/\c.length<=N+1) N (λ k v ⟨_,_,h,_⟩=>h) (by
  rintro i v ⟨c,rfl,hi,hcl,hc⟩;by_cases hlt:i<N;left;obtain⟨d,F,c2,hb,hci,W4,hc2⟩:=akg (n:=n) (a1:=a0) hg hd (by omega) hlt;simp only[gV,show decide ((i:Int)<a0.length)=true from by simp;omega,aj,hci,ai,aX i,eU,aJ];have hfin:∀c':List ByteArray,c'.length<=N+1->(c'=[]->c=[]/\c2=[])->∃c'',(((i+1:Nat):Int),a0,us,c')=(((i+1:Nat):Int),a0,us,c'')/\i+1<=N/\c''.length<=N+1/\(c''=[]->∀j,j<i+1->tI us N j):=λc' hl' he=>
   ⟨c',rfl,hlt,hl',λe j hj=>by have⟨e1,e2⟩:=he e;by_cases h:j=i;subst h;exact⟨d,F,hb,hc2 e2⟩;exact hc e1 j (by omega)⟩
  obtain⟨r,hr⟩:=acP (n:=n) (a:=c2) (b:=c) (by omega) (by omega);cases h0:(c2.length==0)with
  |true=>
   have e2:c2=[]:=List.eq_nil_of_length_eq_zero (by simpa using h0);exact⟨_,by simp,hfin c hcl λe=>⟨e,e2⟩⟩
  |false=>
   have hne:c2≠[]:=λe=>(by rw[e]at h0;simp at h0);simp only[au,ai];have key:∃b,(bif c.length==0 then some true else bif decide ((c2.length:Int)<c.length)then some true else bif(c2.length:Int)==c.length then(l9 n c2 c).bind λr2=>some (decide (r2<0))else some false)=some b/\(c.length=0->b=true):=by
    cases h3:(c.length==0)with
    |true=>exact⟨true,rfl,λ_=>rfl⟩
    |false=>
     have hcn:c.length≠0:=(by simpa using h3);simp only[au,hr,ai];cases decide ((c2.length:Int)<c.length)<;>cases ((c2.length:Int)==c.length)<;>exact⟨_,rfl,λe=>absurd e hcn⟩
   obtain⟨b,hb1,hb2⟩:=key;rw[hb1];cases b with
   |true=>exact⟨_,by simp,hfin c2 W4 λe=>absurd e hne⟩
   |false=>exact⟨_,by simp,hfin c hcl λe=>by rw[e]at hb2;exact absurd (hb2 rfl) (by simp)⟩
  right;refine⟨(a0,us,c),?_,c,rfl,λe j hj=>hc e j (by omega),hcl⟩;simp only[gV,show decide ((i:Int)<a0.length)=false from by simp;omega,au,aJ,aj]) n 0 (0,a0,us,[]) ⟨[],rfl,Nat.zero_le _,by simp,λ_ j hj=>absurd hj (Nat.not_lt_zero _)⟩ (by omega)
 exact⟨c,by simp[iY,h1],h2⟩
theorem BI.back{us:List (List Int)}{N to:Nat}{d:List Int}{F:List Nat}(b:BI us N to F.length d F){i y:Nat}(hi:i<N)(hy:y<N)(h:(y:Int)∈us.getD i [])(h0:0<=d.getD y 0):0<=d.getD i 0:=by obtain⟨j,hj,hjy⟩:=mem_iff_getElem.1 ((b.mem y hy).1 h0);exact b.cl j y hj (by rw[dm hj,hjy]) i hi h
theorem aoh{us:List (List Int)}{N:Nat}(hg:Zz us N)(hf:∀j,j<N->tI us N j)(done:Nat->Prop){i0:Nat}(h0:i0<N)(hd0:¬done i0):∃i,i<N/\¬done i/\∀k∈us.getD i [],done k.toNat:=by
 refine vk λhno=>?_;have hstep:∀i:{i:Nat // i<N/\¬done i},∃k:{k:Nat // k<N/\¬done k},(k.1:Int)∈us.getD i.1 []:=by
  rintro⟨i,hi,hnd⟩;refine vk λh=>hno ⟨i,hi,hnd,λk hk=>vk λhkd=>h ?_⟩;have hl:us.getD i []∈us:=by have:i<us.length:=(by rw[hg.1];exact hi);simp[this]
  have hr:=(hg.2.2 _ hl).2 k hk;exact⟨⟨k.toNat,by omega,hkd⟩,by show(k.toNat:Int)∈_;rw[Int.toNat_of_nonneg hr.1];exact hk⟩
 obtain⟨f,hfs⟩:=Classical.axiomOfChoice hstep
 let g:Nat->{i:Nat // i<N/\¬done i}:=λj=>Nat.rec ⟨i0,h0,hd0⟩ (λ _ x=>f x) j
 have hgs:∀j,((g (j+1)).1:Int)∈us.getD (g j).1 []:=λj=>hfs (g j);have hnd:¬((List.range (N+1)).map λj=>(g j).1).Nodup:=λh=>by
  have:=IK N _ h λy hy=>by obtain⟨j,_,rfl⟩:=mem_map.1 hy;exact(g j).2.1
  rw[length_map,List.length_range]at this;omega
 obtain⟨a,b,hab,he⟩:∃a b,a<b/\(g a).1=(g b).1:=by refine vk λh=>hnd ?_;rw[List.nodup_iff_pairwise_ne,List.pairwise_map];exact List.pairwise_lt_range.imp λ{x y} hxy e=>h ⟨x,y,hxy,e⟩
 obtain⟨d,F,hb,hneg⟩:=hf _ (g a).2.1;have hall:∀c,a<b -c->c<b -a->0<=d.getD (g (b -c)).1 0:=by
  intro c
  induction c with
  |zero=>intro _ _;rw[Nat.sub_zero,<- he,hb.hd.2];exact Int.le_refl _
  |succ c ih=>
   intro h1 h2;have:=ih (by omega) (by omega);have e:b -c=b -(c+1)+1:=(by omega);rw[e]at this;exact hb.back (g (b -(c+1))).2.1 (g (b -(c+1)+1)).2.1 (hgs (b -(c+1))) this
 have h1:=hall (b -a -1) (by omega) (by omega);have e:b -(b -a -1)=a+1:=by omega
 rw[e]at h1;have h2:=hneg _ (hgs a);simp only[Int.toNat_natCast]at h2;omega
theorem aeY{n N:Nat}{l:List Int}{done:List Bool}(hd:done.length=N)(hl:l.length<=4000000)(hr:∀k∈l,0<=k/\k<N)(hn:4000001<=n):
 ∃r,iw n l done=some (r,done)/\(r=false↔∀k∈l,done.getD k.toNat false=true):=by
 obtain⟨o,h1,h2⟩:=eT (step:=jW l) (λ i (v:Int×List Bool)=>v=((i:Int),done)/\i<=l.length/\∀k∈l.take i,done.getD k.toNat false=true)
  (λ o=>(o= .inl done/\∀k∈l,done.getD k.toNat false=true)\/∃i:Nat,o= .inr (i,done)/\∃k∈l,done.getD k.toNat false=false) l.length (λ k v h=>h.2.1) (by
  rintro i v ⟨rfl,hi,hall⟩;by_cases hlt:i<l.length;have hk:=hr l[i] (getElem_mem hlt);obtain⟨k,hk2⟩:=Int.eq_ofNat_of_zero_le hk.1;have hkN:k<done.length:=by omega
  have IT:done[k]=done.getD k false:=by simp[hkN]
  have htk:l.take (i+1)=l.take i++[l[i]]:=by rw[List.take_add_one,dm hlt];rfl
  simp only[jW,show decide ((i:Int)<l.length)=true from by simp;omega,aj,aU hlt,ai,aJ,hk2,mQ,bA hkN,bH hkN,IT];cases hdk:done.getD k false with
  |true=>
   refine .inl ⟨_,by simp;rfl,by rw[aP (by omega)],hlt,λz hz=>?_⟩;rw[htk,bM]at hz;rcases hz with hz |hz;exact hall z hz;simp at hz;rw[hz,hk2];simpa using hdk
  |false=>exact .inr ⟨_,by simp,.inr ⟨i,rfl,l[i],getElem_mem hlt,by rw[hk2];simpa using hdk⟩⟩
  refine .inr ⟨.inl done,?_,.inl ⟨rfl,by rw[take_of_length_le (by omega)]at hall;exact hall⟩⟩;simp only[jW,show decide ((i:Int)<l.length)=false from by simp;omega,au,aJ,aj]) n 0 (0,done) ⟨rfl,Nat.zero_le _,by simp⟩ (by omega)
 rcases h2 with ⟨rfl,h2⟩ |⟨i,rfl,k,hk,hkd⟩;exact⟨false,by simp[iw,ng,h1],λ_=>h2,λ_=>rfl⟩;refine⟨true,by simp[iw,ng,h1],λh=>(by cases h),λh=>?_⟩;rw[h k hk]at hkd;cases hkd
def N6(us:List (List Int))(N:Nat)(done:List Bool)(i:Nat)(w:Int):Prop:=
 (w= -1/\∀j,j<i->¬(done.getD j false=false/\∀k∈us.getD j [],done.getD k.toNat false=true))\/∃j:Nat,w=j/\j<i/\done.getD j false=false
theorem amw{n N:Nat}{a0:pX}{done:List Bool}(hg:Zz a0.uses N)(hd:a0.defs.length=N)(hl:done.length=N)(hn:4000002<=n):∃w,iter (iK n a0) n (-1,0,done)=some (w,done)/\N6 a0.uses N done N w:=by
 have hN:=hg.2.1;have At:=hg.1;obtain⟨o,h1,w,rfl,h2⟩:=eT (step:=iK n a0) (λ i (v:Int×Int×List Bool)=>∃w,v=(w,(i:Int),done)/\i<=N/\N6 a0.uses N done i w) (λ o=>∃w,o=(w,done)/\N6 a0.uses N done N w) N (λ k v ⟨_,_,h,_⟩=>h) (by
  rintro i v ⟨w,rfl,hi,hw⟩;by_cases hlt:i<N;left;have hiu:i<a0.uses.length:=by omega
  have hid:i<a0.defs.length:=by omega
  have hib:i<done.length:=by omega
  have hl2:=hg.2.2 a0.uses[i] (getElem_mem hiu);obtain⟨r,hr1,hr2⟩:=aeY (n:=n) hl hl2.1 hl2.2 (by omega);have hgi:a0.uses.getD i []=a0.uses[i]:=by simp[hiu]
  have hdi:done[i]=done.getD i false:=by simp[hib]
  simp only[iK,show decide ((i:Int)<a0.uses.length)=true from by simp;omega,aj,aU hiu,ai,aJ,hr1,bA hib,bH hib,hdi,aX i];have keep:(done.getD i false=true\/r=true)->N6 a0.uses N done (i+1) w:=by intro hno;rcases hw with ⟨rfl,hw⟩ |⟨j,rfl,hj,hw⟩;refine .inl ⟨rfl,λj hj h=>?_⟩;by_cases e:j=i;subst e;rw[hgi]at h;rcases hno with h3 |h3;rw[h3]at h;exact absurd h.1 (by simp);have:=hr2.2 h.2;rw[h3]at this;cases this;exact hw j (by omega) h;exact .inr ⟨j,rfl,by omega,hw⟩
  cases hdn:done.getD i false with
  |true=>exact⟨_,by simp,w,rfl,hlt,keep (.inl hdn)⟩
  |false=>
   cases r with
   |true=>exact⟨_,by simp,w,rfl,hlt,keep (.inr rfl)⟩
   |false=>
    have al:N6 a0.uses N done (i+1) i:= .inr ⟨i,rfl,by omega,hdn⟩;rcases hw with ⟨rfl,hw⟩ |⟨j,rfl,hj,hw⟩;exact⟨_,by simp,_,rfl,hlt,al⟩;have hjd:j<a0.defs.length:=(by omega);simp only[Bool.not_false,aj,show decide (j<0)=false from by simp,au,aU hid,aU hjd,ai];cases V3 a0.defs[i].name a0.defs[j].name with
    |true=>exact⟨_,rfl,_,rfl,hlt,al⟩
    |false=>exact⟨_,rfl,_,rfl,hlt,.inr ⟨j,rfl,by omega,hw⟩⟩
  right;have hiN:i=N:=by omega
  refine⟨(w,done),?_,w,rfl,hiN ▸ hw⟩;simp only[iK,show decide ((i:Int)<a0.uses.length)=false from by simp;omega,au,aJ,aj]) n 0 (-1,0,done) ⟨_,rfl,Nat.zero_le _,.inl ⟨rfl,λj hj=>absurd hj (Nat.not_lt_zero _)⟩⟩ (by omega)
 exact⟨w,h1,h2⟩
theorem amx{n N:Nat}{a0:pX}(hg:Zz a0.uses N)(hd:a0.defs.length=N)(hf:∀j,j<N->tI a0.uses N j)(hn:4000002<=n):∃l,nX n a0=some l/\l.length=N/\∀k∈l,0<=k/\k<N:=by
 have hN:=hg.2.1;have hmx:maxLen=9223372036854775807:=rfl
 obtain⟨o,h1,h2⟩:=eT (step:=kP n a0) (λ c (v:Int×List Int×List Bool)=>∃out done,v=((c:Int),out,done)/\c<=N/\out.length=c/\(∀ k∈out,0<=k/\k<N)/\done.length=N/\done.count false=N -c)
  (λ o=>o.length=N/\∀k∈o,0<=k/\k<N) N (λ k v ⟨_,_,_,h,_⟩=>h) (by
  rintro c v ⟨out,done,rfl,hc,hol,hor,hdl,hcf⟩;by_cases hlt:c<N;left;have⟨w,hw1,hw2⟩:=amw (n:=n) hg hd hdl hn;have hopen:∃i0,i0<N/\done.getD i0 false=false:=by have hm:false∈done:=List.count_pos_iff.1 (by omega);obtain⟨i0,h0,e⟩:=mem_iff_getElem.1 hm;exact⟨i0,by omega,by simp[h0,e]⟩
  obtain⟨i0,h0,h0d⟩:=hopen;obtain⟨i,hi,hid,hia⟩:=aoh hg hf (λ j=>done.getD j false=true) h0 (by rw[h0d];simp);rcases hw2 with ⟨rfl,hw2⟩ |⟨j,rfl,hj,hjd⟩;exact absurd ⟨Bool.eq_false_iff.2 hid,hia⟩ (hw2 i hi);have hjl:j<done.length:=by omega
  have hap:bK out.length out.length (sub [(j:Int)] 0 1).length 1 8=true:=by simp[bK,sub];omega
  have hset:(done.set j true).length=done.length:=by simp
  refine⟨((c+1:Nat),out++[(j:Int)],done.set j true),?_,_,_,rfl,hlt,by simp[hol],?_,by simp[hdl],?_⟩;simp only[kP,show decide ((c:Int)<a0.defs.length)=true from by simp;omega,aj,aJ,hw1,ai,bA hjl,bH hjl,hap,fu,aX c,show(((0:Nat):Int)+j).toNat=j by omega,Qk hset.symm];simp[sub];intro k hk;rw[bM]at hk;rcases hk with hk |hk;exact hor k hk;simp at hk;subst hk;omega;have hjf:done[j]=false:=by simpa[List.getD,hjl]using hjd
  rw[List.count_set hjl,hcf,hjf];simp;omega;right;have:c=N:=by omega
  refine⟨out,?_,by omega,hor⟩;simp only[kP,show decide ((c:Int)<a0.defs.length)=false from by simp;omega,au,aJ,aj]) n 0 (0,[],List.replicate N false) ⟨[],_,rfl,Nat.zero_le _,rfl,by simp,by simp,by simp⟩ (by omega)
 refine⟨o,?_,h2⟩;have hmk:sQ N 1=true:=by simp[sQ];omega
 simp only[nX,hd,Int.le_refl,decide_true,Bool.true_and,show decide (0<=N)=true from by simp,hmk,aj,Int.toNat_natCast,h1,ai,eU,aJ];simp
def pL(out:List aN)(s:aN):List aN:=
 match out.getLast? with
 |some q=>bif decide (s.from_<=q.to)then out.dropLast++[⟨q.from_,max q.to s.to⟩]else out++[s]
 |none=>[s]
theorem Xz out (s:aN):(pL out s).length<=out.length+1:=by
 unfold pL;cases out.getLast? with
 |none=>simp
 |some q=>simp;cases decide (s.from_<=q.to)<;>simp<;>omega
theorem ahs o (q s:aN):pL (o++[q]) s=bif decide (s.from_<=q.to)then o++[⟨q.from_,max q.to s.to⟩]else o++[q]++[s]:=by simp[pL]
abbrev GP(s:aN):Prop:=s.from_<s.to
def i7(l:List aN)(y:Int):Bool:=l.any λs=>decide (s.from_<=y)&&decide (y<s.to)
def Can(l:List aN):Prop:=l.Pairwise (λ a b=>a.to<b.from_)/\∀s∈l,GP s
theorem Ov l y:i7 l y=true↔∃s∈l,s.from_<=y/\y<s.to:=by simp[i7]
theorem ES(l m:List aN) y:i7 (l++m) y=(i7 l y || i7 m y):=by simp[i7]
theorem J5 y:i7 [] y=false:=rfl
theorem oP(s:aN) l y:i7 (s::l) y=((decide (s.from_<=y)&&decide (y<s.to)) || i7 l y):=by simp[i7]
theorem aeZ{l m:List aN}(h:l.Perm m) y:i7 l y=i7 m y:=by rw[eH,Ov,Ov];exact⟨λ ⟨s,hs,h1⟩=>⟨s,h.mem_iff.1 hs,h1⟩,λ⟨s,hs,h1⟩=>⟨s,h.mem_iff.2 hs,h1⟩⟩
theorem aja:Can []:=⟨List.Pairwise.nil,by simp⟩
theorem amy{out:List aN}{s:aN}(hc:Can out)(hs:GP s)(hb:∀o∈out,o.from_<=s.from_):
 Can (pL out s)/\(∀ o∈pL out s,o.from_<=s.from_)/\∀y,i7 (pL out s) y=(i7 out y || i7 [s] y):=by rcases List.eq_nil_or_concat out with rfl |⟨o,q,rfl⟩;refine⟨⟨by simp[pL],by simp[pL];exact hs⟩,by simp[pL],λy=>by simp[pL,i7]⟩;rw[List.concat_eq_append]at*;obtain⟨h1,h2⟩:=hc;rw[pairwise_append]at h1;obtain⟨p1,_,p3⟩:=h1;have hq:GP q:=h2 q (by simp);have hqs:q.from_<=s.from_:=hb q (by simp);rw[ahs];by_cases hj:s.from_<=q.to;simp only[hj,decide_true,aj];refine⟨⟨?_,?_⟩,?_,?_⟩;rw[pairwise_append];refine⟨p1,by simp,λa ha b hb'=>?_⟩;rw[bq]at hb';subst hb';exact p3 a ha q (by simp);intro a ha;rcases bM.1 ha with ha |ha;exact h2 a (by simp[ha]);rw[bq]at ha;subst ha;show q.from_<max q.to s.to;have:q.from_<q.to:=hq;omega;intro a ha;rcases bM.1 ha with ha |ha;exact hb a (by simp[ha]);rw[bq]at ha;subst ha;exact hqs;intro y;rw[ES,ES,Bool.or_assoc];congr 1;simp[oP,J5];rw[eH];simp;have:q.from_<q.to:=hq;have:s.from_<s.to:=hs;omega;simp only[hj,decide_false,au];refine⟨⟨?_,?_⟩,?_,?_⟩;rw[pairwise_append];refine⟨?_,by simp,λa ha b hb'=>?_⟩;rw[pairwise_append];exact⟨p1,by simp,p3⟩;rw[bq]at hb';subst hb';rcases bM.1 ha with ha |ha;have:=p3 a ha q (by simp);have:q.from_<q.to:=hq;omega;rw[bq]at ha;subst ha;omega;intro a ha;rcases bM.1 ha with ha |ha;exact h2 a ha;rw[bq]at ha;subst ha;exact hs;intro a ha;rcases bM.1 ha with ha |ha;exact hb a ha;rw[bq]at ha;subst ha;exact Int.le_refl _;intro y;rw[ES]
theorem Qx:∀(l out:List aN),Can out->(∀ s∈l,GP s)->l.Pairwise (λ x y=>x.from_<=y.from_)->(∀ o∈out,∀s∈l,o.from_<=s.from_)->Can (l.foldl pL out)/\∀y,i7 (l.foldl pL out) y=(i7 out y || i7 l y)
 |[],out,hc,_,_,_=>⟨hc,λy=>by simp[J5]⟩
 |s::l,out,hc,hv,hp,hb=>by rw[pairwise_cons]at hp;obtain⟨m1,m2,m3⟩:=amy hc (hv s (by simp)) (λ o ho=>hb o ho s (by simp));obtain⟨f1,f2⟩:=Qx l (pL out s) m1 (λ t ht=>hv t (by simp[ht])) hp.2 (λ o ho t ht=>Int.le_trans (m2 o ho) (hp.1 t ht));refine⟨f1,λy=>?_⟩;rw[foldl_cons,f2,m3,Bool.or_assoc,<- ES];rfl
theorem ae0{a:aN}{l:List aN}(h:Can (a::l)):Can l:=⟨(pairwise_cons.1 h.1).2,λs hs=>h.2 s (by simp[hs])⟩
theorem J6{a:aN}{l:List aN}(h:Can (a::l)){y:Int}(hy:i7 l y=true):a.to<y:=by obtain⟨s,hs,h1,_⟩:=(Ov _ _).1 hy;have:=(pairwise_cons.1 h.1).1 s hs;omega
theorem abm{a:aN}{l:List aN}(h:Can (a::l)){y:Int}(hy:i7 (a::l) y=true):a.from_<=y:=by rw[oP,Bool.or_eq_true]at hy;rcases hy with hy |hy;simp at hy;exact hy.1;have:=J6 h hy;have:a.from_<a.to:=h.2 a (by simp);omega
theorem XA:∀{l m:List aN},Can l->Can m->(∀ y,i7 l y=i7 m y)->l=m
 |[],[],_,_,_=>rfl
 |[],b::m,_,hm,h=>by have:=h b.from_;have hb:b.from_<b.to:=hm.2 b (by simp);rw[J5,oP]at this;simp[hb]at this
 |a::l,[],hl,_,h=>by have:=h a.from_;have ha:a.from_<a.to:=hl.2 a (by simp);rw[J5,oP]at this;simp[ha]at this
 |a::l,b::m,hl,hm,h=>by
  have ha:a.from_<a.to:=hl.2 a (by simp);have hb:b.from_<b.to:=hm.2 b (by simp);have ina:i7 (a::l) a.from_=true:=by rw[oP];simp[ha]
  have US:i7 (b::m) b.from_=true:=by rw[oP];simp[hb]
  have e1:a.from_=b.from_:=by have h1:=abm hm (by rw[<- h];exact ina);have h2:=abm hl (by rw[h];exact US);omega
  have nl:∀(c:aN) k,Can (c::k)->i7 (c::k) c.to=false:=by
   intro c k hk;cases hc:i7 (c::k) c.to with
   |false=>rfl
   |true=>
    rw[oP,Bool.or_eq_true]at hc;rcases hc with hc |hc;simp at hc;have:=J6 hk hc;omega
  have e2:a.to=b.to:=by rcases Int.lt_trichotomy a.to b.to with hlt |he |hlt;have h1:=nl a l hl;rw[h,oP]at h1;simp at h1;omega;exact he;have h1:=nl b m hm;rw[<- h,oP]at h1;simp at h1;omega
  have e:a=b:=by cases a;cases b;simp at e1 e2;rw[e1,e2]
  subst e;rw[XA (ae0 hl) (ae0 hm) λy=>?_];have hy:=h y;rw[oP,oP]at hy;cases h1:i7 l y with
  |true=>
   have:=J6 hl h1;have z:(decide (a.from_<=y)&&decide (y<a.to))=false:=(by rw[Bool.and_eq_false_iff,fH,fH];omega);rw[z,h1,Bool.false_or,Bool.false_or]at hy;rw[<- hy]
  |false=>
   cases h2:i7 m y with
   |false=>rfl
   |true=>
    have:=J6 hm h2;have z:(decide (a.from_<=y)&&decide (y<a.to))=false:=(by rw[Bool.and_eq_false_iff,fH,fH];omega);rw[z,h1,h2]at hy;simp at hy
def Fm(l:List aN):List aN:=(ko t7 l).foldl pL []
theorem amz{l:List aN}(h:l.Pairwise λx y=>t7 y x=false):l.Pairwise λx y=>x.from_<=y.from_:=
 h.imp λ{x y} hxy=>by simp at hxy;omega
theorem abn{l:List aN}(h:∀s∈l,GP s):Can (Fm l)/\∀y,i7 (Fm l) y=i7 l y:=by have hp:=Ez t7 l;obtain⟨h1,h2⟩:=Qx (ko t7 l) [] aja (λ s hs=>h s (hp.mem_iff.1 hs)) (amz (al0 Ou l)) (by simp);exact⟨h1,λy=>by rw[Fm,h2,J5,Bool.false_or,aeZ hp]⟩
theorem akh{l:List aN}(h:∀s∈l,GP s):(jk t7 l).foldl pL []=Fm l:=by have hp:=Xf Ou l;obtain⟨h1,h2⟩:=Qx (jk t7 l) [] aja (λ s hs=>h s (hp.mem_iff.1 hs)) (amz (acE Ou l)) (by simp);have⟨h3,h4⟩:=abn h;exact XA h1 h3 λy=>by rw[h2,J5,Bool.false_or,aeZ hp,h4]
theorem ae1 l:(Fm l).length<=l.length:=by
 have:∀(ys out:List aN),(ys.foldl pL out).length<=out.length+ys.length:=by
  intro ys
  induction ys with
  |nil=>intro out;simp
  |cons y ys ih=>
   intro out;simp;have:=ih (pL out y);have:=Xz out y;omega
 have h:=this (ko t7 l) [];rw[bW]at h;simpa[Fm]using h
abbrev fc(r:ax):Bool:=decide (0<=r.x0)&&(decide (r.x0<r.x1)&&(decide (r.x1<=1048576)&&(decide (0<=r.y0)&&(decide (r.y0<r.y1)&&decide (r.y1<=1048576)))))
theorem Bu(a b:Bool):(bif a then some b else some false)=some (a&&b):=by cases a<;>rfl
theorem S4(a b:Bool):(bif a then some true else some b)=some (a || b):=by cases a<;>rfl
theorem jF(r:ax):pI r=some (fc r):=by simp[pI,Bu]
def kR(l:List ax)(x:Int):List aN:=(l.filter λr=>decide (r.x0<=x)&&decide (x<r.x1)).map λr=>⟨r.y0,r.y1⟩
def cK(l:List ax)(x:Int):List aN:=Fm (kR l x)
theorem IL l x:(kR l x).length<=l.length:=by simp[kR];exact length_filter_le _ _
theorem zh l x:(cK l x).length<=l.length:=
 Nat.le_trans (ae1 _) (IL l x)
theorem aqe{r:ax}(h:fc r=true):r.y0<r.y1:=by simp at h;omega
theorem XB{l:List ax}(h:∀r∈l,fc r=true) x:∀s∈kR l x,GP s:=by intro s hs;simp[kR]at hs;obtain⟨r,⟨hr,_⟩,rfl⟩:=hs;exact aqe (h r hr)
theorem Qy{l:List ax}{x:Int}(hl:l.length<1099511627776){n:Nat}(hn:l.length<n):iter (tV l x) n (0,[])=some (kR l x):=by
 have:=eF (l:=l) (step:=tV l x) (λ i s=>(i,s)) (λ r s=>bif decide (r.x0<=x)&&decide (x<r.x1)then s++[⟨r.y0,r.y1⟩]else s) (λ s=>s) (λ i s=>s.length<=i)
  (λ i hi s hs=>?_) (λ s hs=>by simp[tV]) n hn [] (aB _)
 rw[ip]at this;rw[this];congr 1;have gen:∀ys s,ys.foldl (λ s r=>bif decide (r.x0<=x)&&decide (x<r.x1)then s++[⟨r.y0,r.y1⟩]else s) s=s++kR ys x:=by
  intro ys
  induction ys with
  |nil=>intro s;simp[kR]
  |cons y ys ih=>
   intro s;simp[ih];cases h:(decide (y.x0<=x)&&decide (x<y.x1))with
   |true |false=>simp[kR,h]
 simpa using gen l [];have hi':decide ((i:Int)<l.length)=true:=by simpa using hi
 have ap:bK s.length s.length (sub ([(aN.mk l[i].y0 l[i].y1)]:List aN) 0 1).length 1 16=true:=dx (n:=1) (by omega) (by simp[maxLen];omega);simp only[tV,hi',aj,aU hi,ai,Bu];cases h:(decide (l[i].x0<=x)&&decide (x<l[i].x1))with
 |true=>
  simp only[aj,ap,fu,aJ,ai];refine⟨?_,by simp;omega⟩;rw[aP (by omega)];rfl
 |false=>
  simp only[au,aJ,aj,ai];exact⟨by rw[aP (by omega)],by omega⟩
theorem Qz(w1 r2:List aN)(hw:w1.length=r2.length)(hl:r2.length<1099511627776)(hn:r2.length<n):iter (tX w1 r2) n (0,[])=some (r2.foldl pL []):=by
 have:=eF (l:=r2) (step:=tX w1 r2) (λ i s=>(i,s)) (λ r s=>pL s r) (λ s=>s) (λ i s=>s.length<=i)
  (λ i hi s hs=>?_) (λ s hs=>by simp[tX,hw]) n hn [] (aB _)
 rw[ip]at this;exact this;refine⟨?_,by have:=Xz s r2[i];omega⟩;have hi':decide ((i:Int)<(w1.length:Nat))=true:=by simp;omega
 have ib:cN i w1.length=true:=bA (by omega);have ap:bK s.length s.length (sub ([r2[i]]:List aN) 0 1).length 1 16=true:=dx (n:=1) (by omega) (by simp[maxLen];omega);simp only[tX,hi',aj,ib,bH hi,ai];rcases List.eq_nil_or_concat s with rfl |⟨s0,q,IM⟩;have d0:decide ((([]:List aN).length:Nat)>0)=false:=by simp
 simp;rw[aP (by omega)];rfl;rw[List.concat_eq_append]at IM;subst IM;have d0:decide (((((s0++[q]).length:Nat):Int))>0)=true:=by simp<;>omega
 have B9:(s0++[q]).length=s0.length+1:=by simp
 have wp:i64.wrap (((s0++[q]).length:Nat) -1)=(s0.length:Nat):=by rw[nu (by simp) (by omega),B9];rfl
 have UT:cN (s0.length:Nat) (s0++[q]).length=true:=bA (by omega);have g:bj (s0++[q]) ((0:Nat)+(s0.length:Nat))=some q:=by rw[Eu];simp
 have z:(((0:Nat):Int)+(s0.length:Nat)).toNat=s0.length:=by simp
 have st:(s0++[q]).set s0.length (aN.mk q.from_ (max q.to r2[i].to))=s0++[⟨q.from_,max q.to r2[i].to⟩]:=by simp
 have m:pL (s0++[q]) r2[i]=bif decide (r2[i].from_<=q.to)then s0++[⟨q.from_,max q.to r2[i].to⟩]else s0++[q]++[r2[i]]:=by simp[pL]
 simp only[d0,aj,wp,UT,g,ai,m,z,st];cases decide (r2[i].from_<=q.to)with
 |true=>
  have e:az (s0++[q]).length (s0++[(⟨q.from_,max q.to r2[i].to⟩:aN)]).length=true:=by simp
  simp only[aj,e,ai,aJ];rw[aP (by omega)]
 |false=>
  simp only[au,ap,aj,fu,aJ,ai];rw[aP (by omega)];rfl
theorem acR{l:List ax}{x:Int}(hv:∀r∈l,fc r=true)(hl:l.length<1099511627776)(hn:l.length<n):JW n l x=some (cK l x):=by have h1:=IL l x;have h2:(jk t7 (kR l x)).length=(kR l x).length:=Ew Ou _;unfold JW;simp[Qy (x:=x) (l:=l) (by omega) (n:=n) (by omega)];rw[Kg (λ a b=>if a.from_<b.from_ then -1 else if b.from_<a.from_ then 1 else 0) (λ a b=>by show xK a b=_;unfold xK;rw[kK];rfl) (λ a b=>by by_cases h1:a.from_<b.from_;simp[h1];by_cases h2:b.from_<a.from_<;>simp[h1,h2]) (by omega) (by omega)];simp;rw[Qz _ _ h2.symm (by omega) (by omega)];simp;rw[akh (XB hv x)];rfl
def gW(l:List ax):List Int:=Zt (l.flatMap λr=>[r.x0,r.x1])
def jG{α:Type}(f:Int->Int->α):List Int->List α
 |a::b::l=>f a b::jG f (b::l)
 |_=>[]
def bf(l:List ax):List bP:=jG (λ a b=>⟨a,b,cK l a⟩) (gW l)
theorem rY{α:Type}(f:Int->Int->α):∀l,(jG f l).length=l.length -1/\∀i (h:i+1<l.length) (h':i<(jG f l).length),(jG f l)[i]=f l[i] l[i+1]
 |[] |[a]=>⟨rfl,λi h=>by simp at h⟩
 |a::b::l=>by
  have⟨h1,h2⟩:=rY f (b::l);refine⟨by simp only[jG,fq,h1];simp,λi h h'=>?_⟩;cases i with
  |zero=>rfl
  |succ i=>
   simp;exact h2 i (by simpa using h) _
theorem wV(l:List ax):(l.flatMap λr=>[r.x0,r.x1]).length=2*l.length:=by
 induction l with
 |nil=>rfl
 |cons x l ih=>simp[ih];omega
theorem oQ l:(iG l).length<=l.length:=by
 match l with
 |[] |[x]=>simp[iG]
 |x::y::l=>
  have:=oQ (y::l);simp[iG];cases x==y<;>simp at* <;>omega
theorem Le l:(gW l).length<=2*l.length:=by have h:=oQ (ko (λ a b=>decide (a<b)) (l.flatMap λr=>[r.x0,r.x1]));rw[bW,wV]at h;exact h
theorem QA{l:List ax}(hl:l.length<10995116277)(hn:l.length<n):iter (tY l) n (0,[])=some (l.flatMap λr=>[r.x0,r.x1]):=by
 have:=eF (l:=l) (step:=tY l) (λ i s=>(i,s)) (λ r s=>s++[r.x0,r.x1]) (λ s=>s) (λ i s=>s.length<=2*i)
  (λ i hi s hs=>?_) (λ s hs=>by simp[tY]) n hn [] (aB _)
 rw[ip]at this;rw[this];have gen:∀(ys:List ax) s,ys.foldl (λ s r=>s++[r.x0,r.x1]) s=s++ys.flatMap λr=>[r.x0,r.x1]:=by
  intro ys
  induction ys with
  |nil=>intro s;simp
  |cons y ys ih=>intro s;simp[ih]
 congr 1;simpa using gen l [];have hi':decide ((i:Int)<(l.length:Nat))=true:=by simpa using hi
 have ap:bK s.length s.length (sub ([l[i].x0,l[i].x1]:List Int) 0 2).length 2 8=true:=dx (n:=2) (by omega) (by simp[maxLen];omega);simp only[tY,hi',aj,bA hi,bH hi,ai,ap,fu,aJ];refine⟨?_,by simp;omega⟩;rw[aP (by omega)];rfl
theorem xX{ls:List (List ax)}(hv:∀r∈ls.flatten,fc r=true)(hl:ls.flatten.length<10995116277)(hls:ls.length<1099511627776)(hn:2*ls.flatten.length<n)(hn2:ls.length<n):oW n ls=some (bf ls.flatten):=by
 unfold oW;rw[Ot (by omega) hls hn2];generalize ls.flatten=l at*;have he:=Le l;simp[QA (l:=l) (n:=n) (by omega) (by omega)];rw[kL (by rw[wV];omega) (by rw[wV];omega)];simp only[ai,bW,aJ,aj];rw[mE (by rw[bW,wV];omega) (by rw[bW,wV];omega)];simp only[ai];have hE:iG (ko oX (l.flatMap λr=>[r.x0,r.x1]))=gW l:=rfl;rw[hE];obtain⟨p1,p2⟩:=rY (λ a b=>(⟨a,b,cK l a⟩:bP)) (gW l);have key:iter (tZ n l ((),gW l)) n (1,[])=some (bf l):=by
  have:=iD (step:=tZ n l ((),gW l)) (λ i=>((i+1:Nat),(bf l).take i)) (bf l).length (bf l) (λ i hi=>?_) ?_ n (by unfold bf;omega);simpa using this;have hi2:i+1<(gW l).length:=by unfold bf at hi;omega
  have d:decide (((i+1:Nat):Int)<((gW l).length:Nat))=true:=by simp;omega
  have wp:i64.wrap ((i+1:Nat) -1)=(i:Nat):=by rw[nu (by omega) (by omega)];rfl
  have ap:bK ((bf l).take i).length ((bf l).take i).length (sub ([(bP.mk ((gW l)[i]'(by omega)) (gW l)[i+1] (cK l ((gW l)[i]'(by omega))))]:List bP) 0 1).length 1 40=true:=by refine dx (n:=1) ?_ ?_;rw[length_take];unfold bf;omega;rw[length_take];unfold bf;simp[maxLen];omega
  have tk:(bf l).take (i+1)=(bf l).take i++[⟨(gW l)[i]'(by omega),(gW l)[i+1],cK l ((gW l)[i]'(by omega))⟩]:=by rw[iL hi];congr 2;exact p2 i hi2 hi
  simp only[tZ,d,aj,wp,bA (show i<(gW l).length by omega),bH (show i<(gW l).length by omega),ai,bA hi2,bH hi2,eU,aJ,acR (l:=l) (n:=n) hv (by omega) (by omega),ap,fu];rw[aP (by omega),tk];rfl;have d:decide ((((bf l).length+1:Nat):Int)<((gW l).length:Nat))=false:=by unfold bf;simp;omega
  simp only[tZ,d,au,List.take_length,aJ,aj]
 rw[key];simp
def EU(x0 x1:Int)(c:List aN):List ax:=c.map λq=>⟨x0,q.from_,x1,q.to⟩
def Fl(x0 x1:Int)(c:List aN):List bP->List ax
 |[]=>EU x0 x1 c
 |s::l=>if s.column=c then Fl x0 s.x1 c l else EU x0 x1 c++Fl s.x0 s.x1 s.column l
def oh:List bP->List ax
 |[]=>[]
 |s::l=>Fl s.x0 s.x1 s.column l
theorem abo x0 c:∀(l:List bP) x1 (k:Nat) (hk:k<=l.length),(∀ j (hj:j<k),(l[j]'(by omega)).column=c)->(∀ h:k<l.length,l[k].column≠c)->
 Fl x0 x1 c l=EU x0 (if h:0<k then(l[k -1]'(by omega)).x1 else x1) c++oh (l.drop k)
 |l,x1,0,_,_,h2=>by
  cases l with
  |nil=>simp[Fl,oh]
  |cons s l=>
   have:=h2 (by simp);simp at this;simp[Fl,oh,this]
 |[],x1,k+1,hk,_,_=>by simp at hk
 |s::l,x1,k+1,hk,h1,h2=>by
  have e0:=h1 0 (by omega);simp at e0;simp[Fl,e0];rw[abo x0 c l s.x1 k (by simpa using hk) (λ j hj=>by have:=h1 (j+1) (by omega);simpa using this) (λ h=>by have:=h2 (by simpa using h);simpa using this)];simp;congr 2;by_cases hk0:0<k;simp[hk0];obtain⟨m,rfl⟩:∃m,k=m+1:=⟨k -1,by omega⟩;simp;have:k=0:=by omega
  subst this;simp
theorem Tv{l:List bP}{i k:Nat}(hi:i<l.length)(hk1:0<k)(hk:k<=l.length)(hl:l.length<10995116277)(x3:bP) out (ho:out.length<1099511627776) (hc:x3.column.length<1099511627776) (hn:x3.column.length<n):
 iter (wN l i k x3) n (0,out)=some (out++EU l[i].x0 (l[k -1]'(by omega)).x1 x3.column):=by
 have:=eF (l:=x3.column) (step:=wN l i k x3) (λ j s=>(j,s)) (λ q s=>s++[⟨l[i].x0,q.from_,(l[k -1]'(by omega)).x1,q.to⟩]) (λ s=>s) (λ j s=>s.length<=out.length+j)
  (λ j hj s hs=>?_) (λ s hs=>by simp[wN]) n hn out (aB _)
 rw[ip]at this;rw[this];have gen:∀ys s,ys.foldl (λ s q=>s++[⟨l[i].x0,q.from_,(l[k -1]'(by omega)).x1,q.to⟩]) s=s++EU l[i].x0 (l[k -1]'(by omega)).x1 ys:=by
  intro ys
  induction ys with
  |nil=>intro s;simp[EU]
  |cons y ys ih=>intro s;simp[ih];simp[EU]
 rw[gen];have hj':decide ((j:Int)<x3.column.length)=true:=by simpa using hj
 have wp:i64.wrap (k -1)=(k -1:Nat):=nu hk1 (by omega);have ap:bK s.length s.length (sub ([(ax.mk l[i].x0 (x3.column[j]).from_ (l[k -1]'(by omega)).x1 (x3.column[j]).to)]:List ax) 0 1).length 1 32=true:=dx (n:=1) (by omega) (by simp[maxLen];omega);simp only[wN,hj',aj,aU hj,aU hi,wp,aU (show k -1<l.length by omega),ai,ap,fu,aJ];refine⟨?_,by simp;omega⟩;rw[aP (by omega)];rfl
theorem SA{l:List bP}{b:Nat}(hb:b<=100000)(hl:l.length<=100000)(hc:∀s∈l,s.column.length<=b)(hn:b<n)(hn2:l.length<n):Iw n l=some (oh l):=by
 unfold Iw;simp only[length_nil,aJ,aj];have main:∀(m i:Nat)(out:List ax)(k:Nat),i+m=l.length->m<k->out.length<=i*b->iter (wO n l) k ((i:Int),out)=some (out++oh (l.drop i)):=by
  intro m
  induction m using Nat.strongRecOn with
  |ind m ih=>
   intro i out k him hk ho;obtain⟨k,rfl⟩:∃j,k=j+1:=⟨k -1,by omega⟩;by_cases hm:m=0;subst hm;have:i=l.length:=(by omega);subst this;refine fD ?_;simp[wO,oh];have hi:i<l.length:=(by omega);have di:decide ((i:Int)<(l.length:Int))=true:=(by simpa using hi);obtain⟨q,hq1,hq2,hq3,hq4⟩:∃q,i<q/\q<=l.length/\(∀ j,i<j->j<q->∀h:j<l.length,l[j].column=l[i].column)/\(∀ h:q<l.length,l[q].column≠l[i].column):=(by rcases La (λ j=>if h:j<l.length then decide (l[j].column≠l[i].column)else false) (i+1) l.length with ⟨q,h1,h2,h3,h4⟩ |h;simp[h2]at h3;refine⟨q,by omega,by omega,λj hj1 hj2 hj=>?_,λ_=>h3⟩;have:=h4 j (by omega) hj2;simp[hj,Decidable.not_not]at this;exact this;refine⟨l.length,hi,aB _,λj hj1 hj2 hj=>?_,λh=>by omega⟩;have:=h j (by omega) hj;simp[hj,dite_true,fH,ne_eq,Decidable.not_not]at this;exact this);have cl:∀j (hj:j<l.length),l[j].column.length<=b:=λj hj=>hc _ (getElem_mem hj);have r2:iter (sI n l (i:Int)) n (i64.wrap ((i:Int)+1))=some (q:Int):=(by rw[aP (by omega)];have:=iD (step:=sI n l (i:Int)) (λ j=>((i+1+j:Nat):Int)) (q -(i+1)) q (λ j hj=>?_) ?_ n (by omega);simpa using this;have hjl:i+1+j<l.length:=(by omega);have dj:decide (((i+1+j:Nat):Int)<l.length)=true:=(by simp;omega);have hcc:=cl (i+1+j) hjl;simp only[sI,dj,aj,aU hjl,aU hi,ai];rw[Dh (by omega) (by omega),hq3 (i+1+j) (by omega) (by omega) hjl];simp only[decide_true,ai,aj];rw[aP (by omega)];rfl;rw[show i+1+(q -(i+1))=q by omega];by_cases Ax:q<l.length;have dj:decide ((q:Nat)<l.length)=true:=(by simpa using Ax);have hcc:=cl q Ax;simp[sI,dj,aj,aU Ax,aU hi,ai];rw[Dh (by omega) (by omega)];simp[hq4 Ax];have dj:decide ((q:Int)<l.length)=false:=(by simp;omega);simp only[sI,dj,au,ai]);have ob:i*b<=100000*100000:=Nat.mul_le_mul (by omega) hb;have hci:=cl i hi;have r3:=Tv (n:=n) hi (show 0<q by omega) hq2 (by omega) l[i] out (by omega) (by omega) (by omega);have step:wO n l (i,out)=some (.inl (q,out++EU l[i].x0 (l[q -1]'(by omega)).x1 l[i].column)):=(by simp only[wO,di,aj,r2,aU hi,ai,aJ,r3]);rw[jI step,ih (l.length -q) (by omega) q _ k (by omega) (by omega) (by rw[fe,EU,length_map];have:(i+1)*b<=q*b:=Nat.mul_le_mul_right _ (by omega);rw[Nat.add_mul]at this;omega)];rw[aQ];congr 2
   conv=>rhs;rw[List.drop_eq_getElem_cons hi]
   simp[oh];rw[abo l[i].x0 l[i].column (l.drop (i+1)) l[i].x1 (q -(i+1)) (by rw[length_drop];omega) (λ j hj=>by rw[getElem_drop];exact hq3 _ (by omega) (by omega) (by omega)) (λ h=>by rw[length_drop]at h;rw[getElem_drop];have:=hq4 (by omega);have hqq:i+1+(q -(i+1))=q:=(by omega);simp[hqq];exact this)];rw[List.drop_drop,show i+1+(q -(i+1))=q by omega];congr 2;by_cases h0:0<q -(i+1);simp[h0,dite_true,getElem_drop];congr 2;omega;simp[h0,dite_false];have:q -1=i:=(by omega);congr 2
 have:=main l.length 0 [] n (by omega) (by omega) (by simp);simp[Int.natCast_zero,fI,List.drop_zero]at this;rw[this];simp
def sL(l:List ax):List ax×Int:=
 if l.all fc then(if l.length>400 then([],6)else if (oh (bf l)).length>200 then([],6)else(oh (bf l),0))else([],1)
def cV(l:List ax):Bool:=decide ((sL l).2=0)&&decide ((sL l).1=l)
theorem ae2{l:List ax}{s:bP}(h:s∈bf l):s.column.length<=l.length:=by obtain⟨i,hi,rfl⟩:=List.getElem_of_mem h;obtain⟨p1,p2⟩:=rY (λ a b=>(⟨a,b,cK l a⟩:bP)) (gW l);have:(bf l)[i]=⟨(gW l)[i]'(by unfold bf at hi;omega),(gW l)[i+1]'(by unfold bf at hi;omega),cK l ((gW l)[i]'(by unfold bf at hi;omega))⟩:=p2 i (by unfold bf at hi;omega) hi;rw[this];exact zh l _
theorem uG l:(bf l).length<=2*l.length:=by obtain⟨p1,_⟩:=rY (λ a b=>(⟨a,b,cK l a⟩:bP)) (gW l);have:=Le l;unfold bf;omega
theorem amA{l:List ax}(hl:l.length<1099511627776)(hl2:l.length<n)(hn:1000<=n):SO n l=some (sL l):=by
 unfold SO;have h1:=kZ (l:=l) (step:=NZ l) (λ i=>i) (λ r=>!fc r) () (λ _=>([],1)) (λ i hi=>?_) ?_ n (by omega);rw[ip]at h1;rw[h1];have h2:=jO (λ r=>!fc r) l;cases hf:mV (λ r=>!fc r) l with
 |some i=>
  rw[hf]at h2;have:l.all fc=false:=by rw[<- Bool.not_eq_true,all_eq_true];intro hall;have h3:=h2.symm;simp only[Option.isSome_some,any_eq_true]at h3;obtain⟨x,hx,hx2⟩:=h3;rw[hall x hx]at hx2;cases hx2
  simp[sL,this]
 |none=>
  rw[hf]at h2;have:l.all fc=true:=by
   rw[all_eq_true];intro x hx;cases h:fc x with
   |true=>rfl
   |false=>
    have:l.any (λ r=>!fc r)=true:=any_eq_true.2 ⟨x,hx,by rw[h];rfl⟩;rw[this]at h2;cases h2
  have hv:∀r∈l,fc r=true:=all_eq_true.1 this;by_cases Kf:l.length>400;have d4:decide ((l.length:Int)>400)=true:=by simp;omega
  simp[d4,sL,this,aS Kf];have d4:decide ((l.length:Int)>400)=false:=by simp;omega
  have ls:=uG l;simp[d4];have fl:[l].flatten=l:=by simp
  rw[show (sub ([l]:List (List ax)) 0 1)=[l]from rfl,xX (ls:=[l]) (by rw[fl];exact hv) (by rw[fl];omega) (by simp) (by rw[fl];omega) (by simp;omega),fl];simp;rw[SA (b:=400) (by omega) (by omega) (λ s hs=>Nat.le_trans (ae2 hs) (by omega)) (by omega) (by omega)];simp[yV,sL,this,aR Kf];by_cases sk:(oh (bf l)).length>200;have:decide (((oh (bf l)).length:Int)>200)=true:=by simp;omega
  simp[this,sk];have:decide (((oh (bf l)).length:Int)>200)=false:=by simp;omega
  simp[this,sk]
 have hi':decide ((i:Int)<l.length)=true:=by simpa using hi
 simp only[NZ,hi',aj,aU hi,ai,jF];cases fc l[i]with
 |false=>rfl
 |true=>simp only[Bool.not_true,au];rw[aP (by omega)]
 simp[NZ]
theorem jf{l:List ax}(hl:l.length<1099511627776)(hl2:l.length<n)(hn:1000<=n):lQ n l=some (cV l):=by
 unfold lQ cV;rw[amA hl hl2 hn];simp;by_cases h:(sL l).2=0;have e:((sL l).2==0)=true:=by simp[h]
 have lo:(sL l).1.length<=200:=by unfold sL;split;split;simp;split;simp;simp;omega;simp
 by_cases hlen:(sL l).1.length<n;simp only[h,decide_true,Bool.true_and];rw[Dg (by omega) hlen];rfl;have:(sL l).1.length≠l.length:=by omega
 have hne:(sL l).1≠l:=λe=>this (by rw[e]);simp[h];unfold oZ;have hb:(((sL l).1.length:Int) !=l.length)=true:=by simp;omega
 rw[hb];simp[hne];have e:((sL l).2==0)=false:=by simp[h]
 simp[e,h]
theorem Di{α:Type} c (a b:α):(bif c then some a else some b)=some (bif c then a else b):=by cases c<;>rfl
theorem abp(i n:Nat):Int.tmod (i:Int) (n:Int)=(i%n:Nat):=by rw[Int.tmod_eq_emod_of_nonneg (by omega)];omega
theorem bV{i n:Nat}(h:i<n):decide ((i:Int)<(n:Nat))=true:=by simpa using h
theorem Ow(n:Nat):decide ((n:Int)<(n:Nat))=false:=by simp
theorem ajb{k b:Nat}(h:k*b<=140737488355328)(h2:k<=maxLen):sQ k b=true:=by
 have e:((k:Int)).toNat=k:=by omega
 simp only[sQ,aY,bD,e];exact⟨⟨by omega,h⟩,h2⟩
def qT(p:List dP)(i:Nat):dP:=p.getD i ⟨0,0⟩
def jg(p:List dP)(i:Nat):jJ:=⟨(qT p i).x,(qT p i).y,(qT p ((i+1)%p.length)).x,(qT p ((i+1)%p.length)).y⟩
def fT(p:List dP):List jJ:=(List.range p.length).map (jg p)
theorem U7{p:List dP}{i:Nat}(h:i<p.length):qT p i=p[i]:=by simp[qT,h]
theorem dM p:(fT p).length=p.length:=by simp[fT]
theorem zi{p:List dP}{i:Nat}(h:i<(fT p).length):(fT p)[i]=jg p i:=by simp[fT]
theorem amB{α:Type}(A B:List α)(z x:α):(A++z::B).set A.length x=A++x::B:=by rw[List.set_append_right _ _ (aB _),Nat.sub_self];rfl
theorem AO{p:List dP}(hl:p.length<=100000)(hn:p.length<n):qa n p=some (fT p):=by
 unfold qa;have mk:sQ (p.length:Nat) 32=true:=ajb (by omega) (by show p.length<=2 ^ 63 -1;omega);have main:=iD (step:=pK p) (λ i=>((i:Nat),(List.range i).map (jg p)++List.replicate (p.length -i) (jJ.mk 0 0 0 0))) p.length (fT p) (λ i hi=>?_) ?_ n hn;have z:((p.length:Int)).toNat=p.length:=by omega
 simp only[List.range_zero,List.map_nil,fI,Nat.sub_zero]at main;have d1:decide ((p.length:Int)<=(p.length:Nat))=true:=by simp
 have d2:decide ((0:Int)<=(p.length:Nat))=true:=by simp
 rw[mk,d1,d2,z];simp;rw[ip]at main;rw[main];simp;have e:sub (fT p) 0 p.length=fT p:=by rw[<- dM p];exact eU _
 rw[e,dM];simp;have nz:((p.length:Int) !=0)=true:=by simp;intro h;rw[h]at hi;simp at hi
 have md:(i+1)%p.length<p.length:=Nat.mod_lt _ (by omega);have w:i64.wrap (i+1)=(i+1:Nat):=aP (by omega);have z:((p.length:Int)).toNat=p.length:=by omega
 have rp:List.replicate (p.length -i) (jJ.mk 0 0 0 0)=jJ.mk 0 0 0 0::List.replicate (p.length -(i+1)) (jJ.mk 0 0 0 0):=by rw[show p.length -i=(p.length -(i+1))+1 by omega,List.replicate_succ]
 have la:((List.range i).map (jg p)).length=i:=by simp
 have g:bj ((List.range i).map (jg p)++List.replicate (p.length -i) (jJ.mk 0 0 0 0)) ((0:Nat)+(i:Nat))=some (jJ.mk 0 0 0 0):=by rw[Eu,qd (by omega),la,rp,Nat.sub_self];rfl
 have z2:(((0:Nat):Int)+(i:Nat)).toNat=i:=by omega
 have st:((List.range i).map (jg p)++List.replicate (p.length -i) (jJ.mk 0 0 0 0)).set i (jg p i)=(List.range (i+1)).map (jg p)++List.replicate (p.length -(i+1)) (jJ.mk 0 0 0 0):=by rw[rp];have:=amB ((List.range i).map (jg p)) (List.replicate (p.length -(i+1)) (jJ.mk 0 0 0 0)) (jJ.mk 0 0 0 0) (jg p i);rw[la]at this;rw[this,List.range_succ,map_append,aQ];rfl
 simp only[pK,bV hi,aj,aU hi,ai,nz,w,abp,aU md,z,bA hi,g,z2];rw[<- U7 hi,<- U7 md];rw[show jJ.mk (qT p i).x (qT p i).y (qT p ((i+1)%p.length)).x (qT p ((i+1)%p.length)).y=jg p i from rfl,st];simp[pK];rfl
def U8(a:dP):Bool:=decide (0<=a.x)&&(decide (a.x<=1048576)&&(decide (0<=a.y)&&decide (a.y<=1048576)))
def vp(s:jJ):Bool:=s.mm==s.mT
def S3(s t:jJ):Bool:=decide (max (min s.mm s.mT) (min t.mm t.mT)<=min (max s.mm s.mT) (max t.mm t.mT))&&decide (max (min s.qt s.vl) (min t.qt t.vl)<=min (max s.qt s.vl) (max t.qt t.vl))
def U9(a b:dP):Bool:=decide (a.x<b.x) || (a.x==b.x&&decide (a.y<b.y))
theorem Ox(a:dP):ul a=some (U8 a):=by simp[ul,Bu,U8]
theorem Dj(s t:jJ):lZ s t=some (S3 s t):=by simp[lZ,Bu,S3]
theorem nJ(s:jJ):gK s=some (vp s):=rfl
theorem XC(a b:Int)(hn:3<=n):vM n [a,b]=some (if a=0 then b else a):=by
 obtain⟨m,rfl⟩:∃m,n=m+3:=⟨n -3,by omega⟩;have w1:i64.wrap (0+1)=1:=by decide
 have w2:i64.wrap (1+1)=2:=by decide
 by_cases ha:a=0;by_cases hb:b=0;subst ha;subst hb;simp;rfl;have hb':(b !=0)=true:=by simpa using hb
 subst ha;simp only[vM,JM,Bt,w1];simp[bj,hb'];have ha':(a !=0)=true:=by simpa using ha
 simp[vM,JM,Bt];simp[bj,ha',ha]
theorem LW(a b:dP)(hn:3<=n):∃r,rJ n a b=some r/\decide (r>=0)=!U9 a b:=by
 unfold rJ;rw[kK,kK];simp;rw[show ∀u v:Int,sub [u,v] 0 2=[u,v]from λ_ _=>rfl,XC _ _ hn];refine⟨_,rfl,?_⟩;unfold U9;by_cases h1:a.x<b.x;simp[h1];by_cases h2:b.x<a.x;have h3:¬a.x=b.x:=by omega
 simp[h1,h2,h3];have h3:a.x=b.x:=by omega
 by_cases h4:a.y<b.y;simp[h3,h4];by_cases h5:b.y<a.y<;>simp[h3,h4,h5]
def Mn(p:List dP)(i:Nat):Bool:=
 (!U8 (qT p i) || ((((jg p i).mm==(jg p i).mT)==((jg p i).qt==(jg p i).vl)) || (vp (jg p i)==vp (jg p ((i+1)%p.length))))) || (decide (0<i)&&!U9 (qT p 0) (qT p i))
def Tw(p:List dP)(i k:Nat):Bool:=decide (i+p.length -k>1)&&S3 (jg p i) (jg p k)
def QB(p:List dP):Bool:=
 decide (4<=p.length)&&(decide (p.length<=60)&&(!((List.range p.length).any (Mn p))&&(!((List.range p.length).any λi=>(List.range p.length).any λk=>decide (i+2<=k)&&Tw p i k)&&!vp (jg p 0))))
def ahv(l:List ax)(x y:Int):Bool:=l.any λr=>(decide (r.x0<=x)&&decide (x<r.x1))&&(decide (r.y0<=y)&&decide (y<r.y1))
theorem ae3 l (x y:Int):i7 (kR l x) y=ahv l x y:=by
 induction l with
 |nil=>rfl
 |cons r l ih=>
  unfold kR ahv at*;rw[List.filter_cons,List.any_cons,<- ih];cases h:(decide (r.x0<=x)&&decide (x<r.x1))with
  |true=>simp;rw[oP]
  |false=>simp
theorem Oy{l:List ax}(h:∀r∈l,fc r=true) x:Can (cK l x)/\∀y,i7 (cK l x) y=ahv l x y:=by have⟨h1,h2⟩:=abn (XB h x);exact⟨h1,λy=>by rw[cK,h2,ae3]⟩
def XD:List bP->Prop
 |[]=>True
 |[s]=>s.x0<s.x1
 |s::t::l=>s.x0<s.x1/\s.x1=t.x0/\XD (t::l)
def IQ:List bP->Int->List aN
 |[],_=>[]
 |s::l,x=>bif decide (s.x0<=x)&&decide (x<s.x1)then s.column else IQ l x
theorem zk(s:bP) l x:IQ (s::l) x=bif decide (s.x0<=x)&&decide (x<s.x1)then s.column else IQ l x:=rfl
def Runs:List bP->Prop
 |[]=>True
 |[s]=>s.x0<s.x1/\s.column≠[]
 |s::t::l=>(s.x0<s.x1/\s.column≠[])/\s.x1<=t.x0/\(s.x1=t.x0->s.column≠t.column)/\Runs (t::l)
theorem aoi{s:bP}{l:List bP}{x:Int}(h1:s.x0<=x)(h2:x<s.x1):IQ (s::l) x=s.column:=by rw[zk,show(decide (s.x0<=x)&&decide (x<s.x1))=true by simp[h1,h2]];rfl
theorem qE{α:Type}(f:Int->Int->α)(a b:Int) l:jG f (a::b::l)=f a b::jG f (b::l):=rfl
theorem Oz(g:Int->List aN):∀es,es.Pairwise (· < ·)->XD (jG (λ a b=>(⟨a,b,g a⟩:bP)) es)
 |[],_ |[_],_=>trivial
 |[a,b],h=>by have h1:=(pairwise_cons.1 h).1 b (by simp);exact h1
 |a::b::c::l,h=>by have h1:=(pairwise_cons.1 h).1 b (by simp);exact⟨h1,rfl,Oz g (b::c::l) (pairwise_cons.1 h).2⟩
theorem IU(g:Int->List aN) x:∀es,(∀ e∈es,x<e)->IQ (jG (λ a b=>(⟨a,b,g a⟩:bP)) es) x=[]
 |[],_ |[_],_=>rfl
 |a::b::l,h=>by have ha:=h a (by simp);rw[qE,zk,show(decide (a<=x)&&decide (x<b))=false by rw[Bool.and_eq_false_iff,fH];left;omega,au];exact IU g x (b::l) λe he=>h e (dS _ he)
theorem IV(g:Int->List aN) x:∀l a,(a::l).Pairwise (· < ·)->a<=x->
 (∀ e∈a::l,e<=x->(∀ e'∈a::l,e'<=e\/x<e')->g e=g x)->((∀ e∈a::l,e<=x)->g x=[])->IQ (jG (λ a b=>(⟨a,b,g a⟩:bP)) (a::l)) x=g x
 |[],a,_,hx,_,h2=>(h2 (λ e he=>by have:e=a:=by simpa using he
                                  subst this;exact hx)).symm
 |b::l,a,hp,hx,h1,h2=>by have hab:=(pairwise_cons.1 hp).1 b (by simp);rw[qE,zk];by_cases hb:x<b;rw[show (decide (a<=x)&&decide (x<b))=true by simp[hx,hb],aj];refine h1 a (by simp) hx λe he=>?_;rcases aH.1 he with rfl |he;exact .inl (Int.le_refl _);right;rcases aH.1 he with rfl |he;exact hb;have:=(pairwise_cons.1 (pairwise_cons.1 hp).2).1 e he;omega;rw[show (decide (a<=x)&&decide (x<b))=false by simp[hb],au];refine IV g x l b (pairwise_cons.1 hp).2 (by omega) (λ e he hex hc=>h1 e (dS _ he) hex λe' he'=>?_) λhall=>h2 λe he=>?_;rcases aH.1 he' with rfl |he';left;have:=(pairwise_cons.1 hp).1 e he;omega;exact hc e' he';rcases aH.1 he with rfl |he;exact hx;exact hall e he
theorem ae4(g:Int->List aN) es (hp:es.Pairwise (· < ·)) x
 (h1:∀e∈es,e<=x->(∀ e'∈es,e'<=e\/x<e')->g e=g x) (h2:(∀ e∈es,e<=x)->g x=[]) (h3:(∀ e∈es,x<e)->g x=[]):IQ (jG (λ a b=>(⟨a,b,g a⟩:bP)) es) x=g x:=by
 cases es with
 |nil=>exact(h3 (by simp)).symm
 |cons a l=>
  by_cases hx:a<=x;exact IV g x l a hp hx h1 h2;have hall:∀e∈a::l,x<e:=by intro e he;rcases aH.1 he with rfl |he;omega;have:=(pairwise_cons.1 hp).1 e he;omega
  rw[IU g x _ hall,h3 hall]
theorem XE{l:List ax}{z:Int}:z∈gW l↔∃r∈l,z=r.x0\/z=r.x1:=by rw[gW,alY,List.mem_flatMap];simp
theorem Lf l:(gW l).Pairwise (· < ·):=aeD _
theorem ZA{l:List ax}{es:List Int}(hes:∀r∈l,r.x0∈es/\r.x1∈es){e x:Int}(hex:e<=x)(hc:∀e'∈es,e'<=e\/x<e'):kR l e=kR l x:=by unfold kR;congr 1;refine List.filter_congr λr hr=>?_;have⟨h0,h1⟩:=hes r hr;have:=hc _ h0;have:=hc _ h1;rw[eH,aY,aY,bD,bD,bD,bD];omega
theorem OA{l:List ax}{x:Int}(h:∀r∈l,x<r.x0\/r.x1<=x):kR l x=[]:=by unfold kR;rw[List.map_eq_nil_iff,List.filter_eq_nil_iff];intro r hr;have:=h r hr;rw[aY,bD,bD];omega
theorem IW l:XD (bf l):=Oz _ _ (Lf l)
theorem Lg l x:IQ (bf l) x=cK l x:=by have hes:∀r∈l,r.x0∈gW l/\r.x1∈gW l:=λr hr=>⟨XE.2 ⟨r,hr,.inl rfl⟩,XE.2 ⟨r,hr,.inr rfl⟩⟩;refine ae4 (cK l) (gW l) (Lf l) x (λ e _ hex hc=>?_) (λ hall=>?_) (λ hall=>?_);unfold cK;rw[ZA hes hex hc];unfold cK;rw[OA λr hr=> .inr (hall _ (hes r hr).2)];rfl;unfold cK;rw[OA λr hr=> .inl (hall _ (hes r hr).1)];rfl
theorem aki{a:List ax}(h:cV a=true):sL a=(a,0):=by unfold cV at h;rw[aY,bD,bD]at h;obtain⟨h1,h2⟩:=h;exact Prod.ext h2 h1
theorem uH{a:List ax}(h:cV a=true):(∀ r∈a,fc r=true)/\a.length<=200/\oh (bf a)=a:=by have h:=aki h;unfold sL at h;split at h;rename_i hall;split at h;simp at h;split at h;simp at h;rename_i sk;injection h with h _;refine⟨all_eq_true.1 hall,?_,h⟩;rw[<- h];omega;simp at h
def ext(out:List aN)(p:aN):List aN:=
 match out.getLast? with
 |some q=>bif q.to==p.from_ then out.dropLast++[⟨q.from_,p.to⟩]else out++[p]
 |none=>[p]
def lr(a b:List aN):List Int:=Zt ((a++b).flatMap λs=>[s.from_,s.to])
def uI(keep:Bool->Bool->Bool)(a b:List aN):List aN:=
 ((jG aN.mk (lr a b)).filter λp=>keep (i7 a p.from_) (i7 b p.from_)).foldl ext []
theorem ahw o (q p:aN):ext (o++[q]) p=bif q.to==p.from_ then o++[⟨q.from_,p.to⟩]else o++[q]++[p]:=by simp[ext]
def rq(keep:Bool->Bool->Bool)(a b:List ax):List bP:=
 jG (λ x x'=>(⟨x,x',uI keep (cK a x) (cK b x)⟩:bP)) (gW (a++b))
def uJ(keep:Bool->Bool->Bool)(a b:List ax):List ax×Int:=
 if cV a&&cV b then(if (oh (rq keep a b)).length>200 then([],6)else(oh (rq keep a b),0))else([],1)
def XF{α:Type}(a0:List α)(a1:Int)(a2:(α×Int×Unit)->Option Int):(Int×Int)->Option ((Int×Int)⊕Int)
 |(v1,v2)=>(bif (decide (v1<v2))then(ck (decide (0<=1)&&decide (1<=IntKind.u64.bits)) ((bj a0 (i64.wrap ((IntKind.u64.wrap (i64.wrap (v1+v2)))/2 ^ (1:Int).toNat))).bind λx1=>(a2 (x1,a1,())).bind λr1=>(bif (decide (r1<0))then some (.inl ((i64.wrap ((i64.wrap ((IntKind.u64.wrap (i64.wrap (v1+v2)))/2 ^ (1:Int).toNat))+1)),v2))else some (.inl (v1,(i64.wrap ((IntKind.u64.wrap (i64.wrap (v1+v2)))/2 ^ (1:Int).toNat)))))))else some (.inr v1))
theorem ae5{α:Type}{l:List α}{key:Int}{φ:(α×Int×Unit)->Option Int}(p:α->Bool)(f:α->Int)(hφ:∀x,φ (x,key,())=some (f x))(hf:∀x,decide (f x<0)=p x)
 (hm:∀i j (hj:j<l.length) (hij:i<j),p l[j]=true->p (l[i]'(by omega))=true) (hl:l.length<1099511627776):
 ∀(m i j n:Nat),j -i<=m->i<=j->j<=l.length->(∀ k (hk:k<i) (hkl:k<l.length),p l[k]=true)->(∀ k (hk:j<=k) (hkl:k<l.length),p l[k]=false)->m<n->
 ∃w:Nat,w<=l.length/\iter (XF l key φ) n (i,j)=some (w:Int)/\(∀ k (hk:k<w) (hkl:k<l.length),p l[k]=true)/\∀k (hk:w<=k) (hkl:k<l.length),p l[k]=false:=by
 intro m
 induction m with
 |zero=>
  intro i j n hm0 hij hjl h1 h2 hn;obtain⟨n,rfl⟩:∃q,n=q+1:=⟨n -1,by omega⟩;have:i=j:=by omega
  subst this;exact⟨i,hjl,fD (by simp[XF]),h1,h2⟩
 |succ m ih=>
  intro i j n hm0 hij hjl h1 h2 hn;obtain⟨n,rfl⟩:∃q,n=q+1:=⟨n -1,by omega⟩;by_cases hlt:i<j;have c:decide ((i:Int)<(j:Nat))=true:=by simpa using hlt
  have c1:(decide (0<=1)&&decide (1<=IntKind.u64.bits))=true:=rfl;have e:i64.wrap ((IntKind.u64.wrap (i64.wrap ((i:Nat)+(j:Nat))))/2 ^ (1:Int).toNat)=((i+j)/2:Nat):=by
   rw[aqJ (by omega),abd (by omega),show((((i+j:Nat):Int))/2 ^ (1:Int).toNat)=((i+j)/2:Nat)by
    rw[show (1:Int).toNat=1 from rfl,Int.pow_one];omega,Nz (by omega)]
  have hh:(i+j)/2<l.length:=by omega
  cases hp:p l[(i+j)/2]with
  |true=>
   have s:XF l key φ (i,j)=some (.inl (((i+j)/2+1:Nat),j)):=(by simp only[XF,c,aj,c1,e,aU hh,ai,hφ,hf,hp];rw[aP (by omega)]);rw[jI s];refine ih _ _ n (by omega) (by omega) hjl (λ k hk hkl=>?_) h2 (by omega);by_cases hk2:k<(i+j)/2;exact hm k _ hh hk2 hp;have:k=(i+j)/2:=(by omega);subst this;exact hp
  |false=>
   have s:XF l key φ (i,j)=some (.inl (i,((i+j)/2:Nat))):=(by simp only[XF,c,aj,c1,e,aU hh,ai,hφ,hf,hp,au]);rw[jI s];refine ih _ _ n (by omega) (by omega) (by omega) h1 (λ k hk hkl=>?_) (by omega);by_cases hk2:(i+j)/2<k;cases hpk:p l[k]with
   |false=>rfl
   |true=>have:=hm _ k hkl hk2 hpk;rw[hp]at this;cases this
   have:k=(i+j)/2:=(by omega);subst this;exact hp
  have:i=j:=by omega
  subst this;exact⟨i,hjl,fD (by simp[XF]),h1,h2⟩
theorem amD l key (φ:(bP×Int×Unit)->Option Int):lX l key φ=XF l key φ:=by funext ⟨a,b⟩;rfl
theorem aoj l key (φ:(aN×Int×Unit)->Option Int):mX l key φ=XF l key φ:=by funext ⟨a,b⟩;rfl
theorem XG:∀{l:List bP},XD l->l.Pairwise (λ s t=>s.x1<=t.x0)/\∀s∈l,s.x0<s.x1
 |[],_=>⟨List.Pairwise.nil,by simp⟩
 |[s],h=>⟨by simp,λt ht=>by have:t=s:=by simpa using ht
                            subst this;exact h⟩
 |s::t::l,h=>by obtain⟨h1,h2,h3⟩:=h;have⟨p1,p2⟩:=XG h3;refine⟨?_,?_⟩;rw[pairwise_cons];refine⟨λ u hu=>?_,p1⟩;rcases aH.1 hu with rfl |hu;omega;have:=(pairwise_cons.1 p1).1 u hu;have:=p2 t (by simp);omega;intro u hu;rcases aH.1 hu with rfl |hu;exact h1;exact p2 u hu
theorem LX{x:Int}:∀{l:List bP},(∀ s∈l,¬(s.x0<=x/\x<s.x1))->IQ l x=[]
 |[],_=>rfl
 |s::l,h=>by have:=h s (by simp);rw[zk,show(decide (s.x0<=x)&&decide (x<s.x1))=false by rw[Bool.and_eq_false_iff,fH,fH];omega,au];exact LX λt ht=>h t (by simp[ht])
theorem abq{x:Int}:∀{l:List bP}{w:Nat}(hw:w<l.length),(∀ k (hk:k<w),¬((l[k]'(by omega)).x0<=x/\x<(l[k]'(by omega)).x1))->l[w].x0<=x->x<l[w].x1->IQ l x=l[w].column
 |[],w,hw,_,_,_=>by simp at hw
 |s::l,0,hw,_,h0,h1=>aoi h0 h1
 |s::l,w+1,hw,hk,h0,h1=>by have hs:=hk 0 (by omega);simp at hs;rw[zk,show(decide (s.x0<=x)&&decide (x<s.x1))=false by rw[Bool.and_eq_false_iff,fH,fH];omega,au];exact abq (by simpa using hw) (λ k hk'=>by have:=hk (k+1) (by omega);simpa using this) h0 h1
theorem ae6{l:List bP}{x:Int}(h:XD l)(hl:l.length<1099511627776)(hn:l.length<n):Xv n l x=some (IQ l x):=by
 have⟨a1,a2⟩:=XG h;rw[List.pairwise_iff_getElem]at a1
 have run:=ae5 (l:=l) (key:=x) (φ:=λ(y1:bP×Int×Unit)=>wR y1.1 y1.2.1) (λ s=>decide (s.x1<=x)) (λ s=>if s.x1<=x then -1 else 1)
  (λ s=>by show wR s x=_;unfold wR;by_cases c:s.x1<=x<;>simp[c]) (λ s=>by by_cases c:s.x1<=x<;>simp[c])
  (λ i j hj hij hp=>by rw[bD]at hp ⊢;have:=a1 i j (by omega) hj hij;have:=a2 l[j] (getElem_mem _);omega) hl l.length 0 l.length n (by omega) (by omega) (aB _) (λ k hk=>by omega) (λ k hk hkl=>by omega) hn
 obtain⟨w,hw,e,h1,h2⟩:=run;unfold Xv jc;rw[amD];have e':iter (XF l x λ(y1:bP×Int×Unit)=>wR y1.1 y1.2.1) n (0,(l.length:Nat))=some (w:Int):=e;rw[e'];simp only[ai];have an:∀b:Int,∃bb,((bif (decide (w<(l.length:Int)))then(bj l w).bind λx2=>(wR x2 x).bind λr2=>some (w,(r2==b))else some (w,false)):Option (Int×Bool))=some ((w:Int),bb):=by
  intro b;by_cases c:w<l.length;have d:decide ((w:Int)<l.length)=true:=by simpa using c
  rw[d];simp only[aj];rw[aU c,ai];unfold wR;cases decide (l[w].x1<=x)<;>exact⟨_,rfl⟩;have d:decide ((w:Int)<l.length)=false:=by simp;omega
  rw[d];exact⟨_,rfl⟩
 have⟨bb,hbb⟩:=an 0;rw[hbb,ai];simp only[];by_cases c:w<l.length;have d:decide ((w:Int)<l.length)=true:=by simpa using c
 simp only[d,aj,aU c,ai];have hx1:=h2 w (aB _) c;rw[fH]at hx1;by_cases c2:l[w].x0<=x;simp[c2];rw[abq c (λ k hk hh=>?_) c2 (by omega)];have:=h1 k hk (by omega);rw[bD]at this;omega;simp[c2];rw[LX λs hs hh=>?_];obtain⟨k,hk,rfl⟩:=mem_iff_getElem.1 hs;rcases Nat.lt_trichotomy k w with C2 |rfl |C2;have:=h1 k C2 hk;rw[bD]at this;omega;omega;have:=a1 w k c hk C2;have:=a2 l[w] (getElem_mem _);omega;have d:decide ((w:Int)<l.length)=false:=by simp;omega
 simp only[d,au,ai];rw[LX λs hs hh=>?_];obtain⟨k,hk,rfl⟩:=mem_iff_getElem.1 hs;have:=h1 k (by omega) hk;rw[bD]at this;omega
theorem OC{l:List aN}{y:Int}(h:Can l)(hl:l.length<1099511627776)(hn:l.length<n):Db n l y=some (i7 l y):=by
 obtain⟨a1,a2⟩:=h;rw[List.pairwise_iff_getElem]at a1
 have run:=ae5 (l:=l) (key:=y) (φ:=λ(y1:aN×Int×Unit)=>lY y1.1 y1.2.1) (λ s=>decide (s.to<=y)) (λ s=>if s.to<=y then -1 else 1)
  (λ s=>by show lY s y=_;unfold lY;by_cases c:s.to<=y<;>simp[c]) (λ s=>by by_cases c:s.to<=y<;>simp[c])
  (λ i j hj hij hp=>by rw[bD]at hp ⊢;have:=a1 i j (by omega) hj hij;have:l[j].from_<l[j].to:=a2 l[j] (getElem_mem _);omega) hl l.length 0 l.length n (by omega) (by omega) (aB _) (λ k hk=>by omega) (λ k hk hkl=>by omega) hn
 obtain⟨w,hw,e,h1,h2⟩:=run;unfold Db jE;rw[aoj];have e':iter (XF l y λ(y1:aN×Int×Unit)=>lY y1.1 y1.2.1) n (0,(l.length:Nat))=some (w:Int):=e;rw[e'];simp only[ai];have an:∀b:Int,∃bb,((bif (decide (w<(l.length:Int)))then(bj l w).bind λx2=>(lY x2 y).bind λr2=>some (w,(r2==b))else some (w,false)):Option (Int×Bool))=some ((w:Int),bb):=by
  intro b;by_cases c:w<l.length;have d:decide ((w:Int)<l.length)=true:=by simpa using c
  rw[d];simp only[aj];rw[aU c,ai];unfold lY;cases decide (l[w].to<=y)<;>exact⟨_,rfl⟩;have d:decide ((w:Int)<l.length)=false:=by simp;omega
  rw[d];exact⟨_,rfl⟩
 have⟨bb,hbb⟩:=an 0;rw[hbb,ai];simp only[];by_cases c:w<l.length;have d:decide ((w:Int)<l.length)=true:=by simpa using c
 simp only[d,aj,aU c,ai];have hx1:=h2 w (aB _) c;rw[fH]at hx1;congr 1;rw[eH,bD,Ov];constructor;exact λhf=>⟨l[w],getElem_mem _,hf,by omega⟩;rintro⟨s,hs,g1,g2⟩;obtain⟨k,hk,rfl⟩:=mem_iff_getElem.1 hs;rcases Nat.lt_trichotomy k w with C2 |rfl |C2;have:=h1 k C2 hk;rw[bD]at this;omega;exact g1;have:=a1 w k c hk C2;omega;have d:decide ((w:Int)<l.length)=false:=by simp;omega
 simp only[d,au];congr 1;symm;cases hh:i7 l y with
 |false=>rfl
 |true=>
  obtain⟨s,hs,g1,g2⟩:=(Ov _ _).1 hh;obtain⟨k,hk,rfl⟩:=mem_iff_getElem.1 hs;have:=h1 k (by omega) hk;rw[bD]at this;omega
theorem OD{l:List (List aN)}(hf:l.flatten.length<1099511627776)(hl:l.length<1099511627776)(hn:l.length<n):y7 n l=some l.flatten:=NC (aN.mk 0 0) (b:=16) hf (by omega) hl hn
theorem OE(l:List aN):(l.flatMap λr=>[r.from_,r.to]).length=2*l.length:=by
 induction l with
 |nil=>rfl
 |cons x l ih=>simp[ih];omega
theorem Tx{l:List aN}(hl:l.length<10995116277)(hn:l.length<n):iter (wS l) n (0,[])=some (l.flatMap λr=>[r.from_,r.to]):=by
 have:=eF (l:=l) (step:=wS l) (λ i s=>(i,s)) (λ r s=>s++[r.from_,r.to]) (λ s=>s) (λ i s=>s.length<=2*i)
  (λ i hi s hs=>?_) (λ s hs=>by simp[wS]) n hn [] (aB _)
 rw[ip]at this;rw[this];have gen:∀(ys:List aN) s,ys.foldl (λ s r=>s++[r.from_,r.to]) s=s++ys.flatMap λr=>[r.from_,r.to]:=by
  intro ys
  induction ys with
  |nil=>intro s;simp
  |cons y ys ih=>intro s;simp[ih]
 congr 1;simpa using gen l [];have hi':decide ((i:Int)<(l.length:Nat))=true:=by simpa using hi
 have ap:bK s.length s.length (sub ([l[i].from_,l[i].to]:List Int) 0 2).length 2 8=true:=dx (n:=2) (by omega) (by simp[maxLen];omega);simp only[wS,hi',aj,bA hi,bH hi,ai,ap,fu,aJ];refine⟨?_,by simp;omega⟩;rw[aP (by omega)];rfl
theorem XH{α β:Type}(p:α->Bool)(f:β->α->β):∀(l:List α)(s:β),(l.filter p).foldl f s=l.foldl (λ s x=>bif p x then f s x else s) s
 |[],s=>rfl
 |x::l,s=>by
  rw[List.filter_cons,foldl_cons];cases h:p x with
  |true |false=>simp;exact XH p f l _
theorem XI out (p:aN):(ext out p).length<=out.length+1:=by
 unfold ext;cases out.getLast? with
 |none=>simp
 |some q=>simp;cases q.to==p.from_<;>simp<;>omega
theorem XJ(a b:List aN):(lr a b).length<=2*(a.length+b.length):=by have h:=oQ (ko (λ a b=>decide (a<b)) ((a++b).flatMap λr=>[r.from_,r.to]));rw[bW,OE,fe]at h;exact h
theorem ZB(keep:Bool->Bool->Bool)(a b:List aN):(uI keep a b).length<=2*(a.length+b.length):=by
 have gen:∀(ys out:List aN),(ys.foldl ext out).length<=out.length+ys.length:=by
  intro ys
  induction ys with
  |nil=>intro out;simp
  |cons y ys ih=>
   intro out;simp;have:=ih (ext out y);have:=XI out y;omega
 have h:=gen ((jG aN.mk (lr a b)).filter λp=>keep (i7 a p.from_) (i7 b p.from_)) [];have h2:=length_filter_le (λ p=>keep (i7 a p.from_) (i7 b p.from_)) (jG aN.mk (lr a b));have h3:=(rY aN.mk (lr a b)).1;have h4:=XJ a b;simp at h;unfold uI;omega
theorem ae7{keep:Bool->Bool->Bool}{φ:(Bool×Bool×Unit)->Option Bool}(hφ:∀p q,φ (p,q,())=some (keep p q)){a b:List aN}(ha:Can a)(hb:Can b)(hl:a.length+b.length<1099511627)(hn:2*(a.length+b.length)+2<n):Iz n a b φ=some (uI keep a b):=by
 have fl:[a,b].flatten=a++b:=by simp
 have s2:(sub ([a,b]:List (List aN)) 0 2)=[a,b]:=rfl;have q2:az ([a,b]:List (List aN)).length 2=true:=rfl;have hys:=XJ a b;have hfl:((a++b).flatMap λr=>[r.from_,r.to]).length=2*(a.length+b.length):=by rw[OE,fe]
 unfold Iz;rw[s2,q2];simp only[aj];rw[OD (by rw[fl,fe];omega) (by simp) (by simp;omega),fl];simp only[ai,length_nil,aJ,aj,Tx (l:=a++b) (n:=n) (by rw[fe];omega) (by rw[fe];omega)];rw[kL (by rw[hfl];omega) (by rw[hfl];omega)];simp only[ai,bW,aJ,aj];rw[mE (by rw[bW,hfl];omega) (by rw[bW,hfl];omega)];simp only[ai];have hE:iG (ko oX ((a++b).flatMap λr=>[r.from_,r.to]))=lr a b:=rfl;rw[hE];have⟨p1,p2⟩:=rY aN.mk (lr a b);have key:iter (wT n a b φ ((),lr a b)) n ((1:Int),([]:List aN))=some (uI keep a b):=by
  have:=eF (l:=jG aN.mk (lr a b)) (step:=wT n a b φ ((),lr a b)) (λ i (s:List aN)=>(((i+1:Nat):Int),s)) (λ p s=>bif keep (i7 a p.from_) (i7 b p.from_)then ext s p else s) (λ s=>s) (λ i s=>s.length<=i)
   (λ i hi s hs=>?_) (λ s hs=>?_) n (by omega) [] (aB _)
  rw[show ((0+1:Nat):Int)=1 from rfl]at this;rw[this,uI,XH];have hi2:i+1<(lr a b).length:=by omega
  have hi1:i<(lr a b).length:=by omega
  have d:decide (((i+1:Nat):Int)<(((lr a b).length:Nat):Int))=true:=by simp;omega
  have wp:i64.wrap ((i+1:Nat) -1)=(i:Nat):=by rw[nu (by omega) (by omega)];rfl
  have pe:(jG aN.mk (lr a b))[i]=aN.mk (lr a b)[i] (lr a b)[i+1]:=p2 i hi2 hi;rw[pe];have lx:=XI s (aN.mk (lr a b)[i] (lr a b)[i+1]);have ap:bK s.length s.length (sub ([(aN.mk (lr a b)[i] (lr a b)[i+1])]:List aN) 0 1).length 1 16=true:=dx (n:=1) (by omega) (by simp[maxLen];omega);have sb:(sub ([(aN.mk (lr a b)[i] (lr a b)[i+1])]:List aN) 0 1)=[aN.mk (lr a b)[i] (lr a b)[i+1]]:=rfl;refine⟨?_,by cases keep (i7 a (lr a b)[i]) (i7 b (lr a b)[i])<;>simp<;>omega⟩;simp only[wT,d,aj,wp,bA hi1,bH hi1,ai,OC (n:=n) ha (show a.length<1099511627776 by omega) (show a.length<n by omega),OC (n:=n) hb (show b.length<1099511627776 by omega) (show b.length<n by omega),hφ];cases hk:keep (i7 a (lr a b)[i]) (i7 b (lr a b)[i])with
  |false=>
   simp only[Bool.not_false,aj,aJ,ai,au];rw[aP (by omega)]
  |true=>
   simp only[Bool.not_true,au,aj];rcases List.eq_nil_or_concat s with rfl |⟨s0,q,IM⟩;have d0:decide ((([]:List aN).length:Nat)>0)=false:=(by simp);simp only[d0,au,ai,bA hi2,bH hi2,aj,ap,fu,aJ];rw[aP (by omega)];rfl;rw[List.concat_eq_append]at IM;subst IM;have d0:decide (((((s0++[q]).length:Nat):Int))>0)=true:=(by simp<;>omega);have B9:(s0++[q]).length=s0.length+1:=(by simp);have wq:i64.wrap (((s0++[q]).length:Nat) -1)=(s0.length:Nat):=(by rw[nu (by simp) (by omega),B9];rfl);have UT:cN (s0.length:Nat) (s0++[q]).length=true:=bA (by omega);have g:bj (s0++[q]) ((0:Nat)+(s0.length:Nat))=some q:=(by rw[Eu];simp);have z:(((0:Nat):Int)+(s0.length:Nat)).toNat=s0.length:=(by simp);have st:(s0++[q]).set s0.length (aN.mk q.from_ (lr a b)[i+1])=s0++[⟨q.from_,(lr a b)[i+1]⟩]:=(by simp);simp only[d0,aj,wq,UT,g,ai,ahw];cases hj:q.to==(lr a b)[i]with
   |true=>
    simp only[aj,bA hi2,bH hi2,ai,z,st];have e:az (s0++[q]).length (s0++[(⟨q.from_,(lr a b)[i+1]⟩:aN)]).length=true:=(by simp);simp only[e,aj,ai,aJ];rw[aP (by omega)]
   |false=>
    rw[sb]at ap;simp only[au,bA hi2,bH hi2,ai,aj,sb,ap,fu,aJ];rw[aP (by omega)]
  have d:decide ((((jG aN.mk (lr a b)).length+1:Nat):Int)<((lr a b).length:Nat))=false:=by simp;omega
  simp only[wT,d,au,aJ,aj]
 rw[key];simp
theorem Dk(keep:Bool->Bool->Bool)(a b:List ax):rq keep a b=(bf (a++b)).map λs=>⟨s.x0,s.x1,uI keep (cK a s.x0) (cK b s.x0)⟩:=by
 have gen:∀es:List Int,jG (λ x x'=>(⟨x,x',uI keep (cK a x) (cK b x)⟩:bP)) es=(jG (λ x x'=>(⟨x,x',cK (a++b) x⟩:bP)) es).map λs=>⟨s.x0,s.x1,uI keep (cK a s.x0) (cK b s.x0)⟩:=by
  intro es
  match es with
  |[] |[_]=>rfl
  |x::y::l=>
   rw[qE,qE,bE];congr 1;have:∀es:List Int,jG (λ x x'=>(⟨x,x',uI keep (cK a x) (cK b x)⟩:bP)) es=(jG (λ x x'=>(⟨x,x',cK (a++b) x⟩:bP)) es).map λs=>⟨s.x0,s.x1,uI keep (cK a s.x0) (cK b s.x0)⟩:=by
    intro es
    induction es with
    |nil=>rfl
    |cons x es ih=>
     cases es with
     |nil=>rfl
     |cons y es=>rw[qE,qE,bE,ih]
   exact this (y::l)
 exact gen (gW (a++b))
theorem ZC{keep:Bool->Bool->Bool}{φ:(Bool×Bool×Unit)->Option Bool}(hφ:∀p q,φ (p,q,())=some (keep p q)){a b:List ax}(ha:a.length<1099511627776)(hb:b.length<1099511627776)(hna:a.length<n)(hnb:b.length<n)(hn:1000<=n):EH n a b φ=some (uJ keep a b):=by
 unfold EH uJ;rw[jf ha hna hn,ai];cases hra:cV a with
 |false=>rfl
 |true=>
  rw[jf hb hnb hn];simp;cases hrb:cV b with
  |false=>rfl
  |true=>
   have⟨a1,a2,_⟩:=uH hra;have⟨b1,b2,_⟩:=uH hrb;have fa:[a].flatten=a:=(by simp);have fb:[b].flatten=b:=(by simp);have fab:[a,b].flatten=a++b:=(by simp);have hab:∀r∈a++b,fc r=true:=λr hr=>(by rcases bM.1 hr with hr |hr;exact a1 r hr;exact b1 r hr);have sa:oW n [a]=some (bf a):=by
    have:=xX (n:=n) (ls:=[a]) (by rw[fa];exact a1) (by rw[fa];omega) (by simp) (by rw[fa];omega) (by simp;omega)
    rwa [fa]at this
   have sb:oW n [b]=some (bf b):=by
    have:=xX (n:=n) (ls:=[b]) (by rw[fb];exact b1) (by rw[fb];omega) (by simp) (by rw[fb];omega) (by simp;omega)
    rwa [fb]at this
   have lab:(a++b).length=a.length+b.length:=fe;have sab:oW n [a,b]=some (bf (a++b)):=by
    have:=xX (n:=n) (ls:=[a,b]) (by rw[fab];exact hab) (by rw[fab,lab];omega) (by simp) (by rw[fab,lab];omega) (by simp;omega)
    rwa [fab]at this
   have e1:(sub ([a]:List (List ax)) 0 1)=[a]:=rfl;have e2:(sub ([b]:List (List ax)) 0 1)=[b]:=rfl;have e3:(sub ([a,b]:List (List ax)) 0 2)=[a,b]:=rfl;have q1:az ([a]:List (List ax)).length 1=true:=rfl;have q2:az ([b]:List (List ax)).length 1=true:=rfl;have q3:az ([a,b]:List (List ax)).length 2=true:=rfl;have la:=uG a;have lb:=uG b;have lS:=uG (a++b);rw[lab]at lS;have mc:∀x,(cK a x).length<=200/\(cK b x).length<=200:=λx=>⟨Nat.le_trans (zh a x) a2,Nat.le_trans (zh b x) b2⟩;have lm:∀x,(uI keep (cK a x) (cK b x)).length<=800:=λx=>(by have:=ZB keep (cK a x) (cK b x);have:=mc x;omega);have key:iter (qY n φ (bf a) (bf b) (bf (a++b))) n ((0:Int),bf (a++b))=some (rq keep a b):=by
    have:=iD (step:=qY n φ (bf a) (bf b) (bf (a++b))) (λ i=>((i:Int),(rq keep a b).take i++(bf (a++b)).drop i)) (bf (a++b)).length (rq keep a b) (λ i hi=>?_) ?_ n (by omega);simpa using this;have d:decide ((i:Int)<(((bf (a++b)).length:Nat):Int))=true:=(by simpa using hi);have lc:(rq keep a b).length=(bf (a++b)).length:=(by rw[Dk,length_map]);have lt:((rq keep a b).take i).length=i:=(by rw[length_take];omega);have hd:(bf (a++b)).drop i=(bf (a++b))[i]::(bf (a++b)).drop (i+1):=List.drop_eq_getElem_cons hi;have g:bj ((rq keep a b).take i++(bf (a++b)).drop i) (((0:Nat):Int)+(i:Nat))=some (bf (a++b))[i]:=(by rw[Eu,qd (by omega),lt,hd];simp);have st:∀s:bP,((rq keep a b).take i++(bf (a++b)).drop i).set i s=(rq keep a b).take i++s::(bf (a++b)).drop (i+1):=(by intro s;rw[List.set_append_right _ _ (by omega),lt,hd,Nat.sub_self];rfl);have z:(((0:Nat):Int)+(i:Nat)).toNat=i:=(by simp);have tk:(rq keep a b).take (i+1)=(rq keep a b).take i++[⟨(bf (a++b))[i].x0,(bf (a++b))[i].x1,uI keep (cK a (bf (a++b))[i].x0) (cK b (bf (a++b))[i].x0)⟩]:=(by rw[iL (by omega)];congr 2;simp[Dk]);have hm:=mc (bf (a++b))[i].x0;have mg:Iz n (cK a (bf (a++b))[i].x0) (cK b (bf (a++b))[i].x0) φ=some (uI keep (cK a (bf (a++b))[i].x0) (cK b (bf (a++b))[i].x0)):=
     ae7 hφ (Oy a1 _).1 (Oy b1 _).1 (by omega) (by omega)
    have at1:Xv n (bf a) (bf (a++b))[i].x0=some (cK a (bf (a++b))[i].x0):=(by rw[ae6 (IW a) (by omega) (by omega),Lg]);have at2:Xv n (bf b) (bf (a++b))[i].x0=some (cK b (bf (a++b))[i].x0):=(by rw[ae6 (IW b) (by omega) (by omega),Lg]);simp only[qY,d,aj,bA hi,g,ai,eU,at1,at2,mg,aJ,z,st];rw[aP (by omega),tk,aQ];rfl;have lc:(rq keep a b).length=(bf (a++b)).length:=(by rw[Dk,length_map]);have d:decide (((bf (a++b)).length:Nat)<((bf (a++b)).length:Nat))=false:=(by simp);simp[qY,d,au,List.drop_length,List.append_nil];rw[take_of_length_le (by omega)]
   have lc:(rq keep a b).length=(bf (a++b)).length:=(by rw[Dk,length_map]);have cc:∀s∈rq keep a b,s.column.length<=800:=(by intro s hs;rw[Dk,mem_map]at hs;obtain⟨t,_,rfl⟩:=hs;exact lm _);have sl:sub (rq keep a b) 0 (bf (a++b)).length=rq keep a b:=(by rw[<- lc,eU]);simp[Bool.not_true,au,e1,e2,e3,q1,q2,q3,aj,sa,sb,sab,ai,eU,aJ,key,sl,lc];rw[SA (b:=800) (by omega) (by omega) cc (by omega) (by omega)];simp[ai,yV,if_true];by_cases sk:(oh (rq keep a b)).length>200;have:decide (((oh (rq keep a b)).length:Int)>200)=true:=(by simp;omega);simp[this,aj,ai,sk,if_true];have:decide (((oh (rq keep a b)).length:Int)>200)=false:=(by simp;omega);simp[this,au,ai,sk,if_false]
theorem acT{a b:List ax}(ha:a.length<1099511627776)(hb:b.length<1099511627776)(hna:a.length<n)(hnb:b.length<n)(hn:1000<=n):JY n a b=some (uJ (λ p q=>p&&q) a b):=by unfold JY;rw[ZC (keep:=λp q=>p&&q) (λ p q=>by show xN p q=_;unfold xN;cases p<;>rfl) ha hb hna hnb hn];rfl
theorem acU{keep:Bool->Bool->Bool}(a b:List ax):(uJ keep a b).1.length<=200:=by unfold uJ;split;split;simp;show(oh _).length<=200;omega;simp
def SB(r:ax):Int:=(r.x1 -r.x0)*(r.y1 -r.y0)
def LY(l:List ax):Int:=(l.map SB).sum
theorem IX{r:ax}(h:fc r=true):0<=SB r/\SB r<=1099511627776:=by simp at h;unfold SB;refine⟨Int.mul_nonneg (by omega) (by omega),?_⟩;have:=Int.mul_le_mul (show r.x1 -r.x0<=1048576 by omega) (show r.y1 -r.y0<=1048576 by omega) (by omega) (by omega);omega
theorem XK:∀{l:List ax},(∀ r∈l,fc r=true)->0<=LY l/\LY l<=1099511627776*l.length
 |[],_=>by simp[LY]
 |r::l,h=>by
  have h1:=IX (h r List.mem_cons_self);have h2:=XK (l:=l) λq hq=>h q (dS _ hq);have e:LY (r::l)=SB r+LY l:=rfl;rw[e,fq]
  push_cast
  omega
theorem IY{l:List ax}{φ:(ax×Unit)->Option Bool}(p:ax->Bool)(h:∀x∈l,φ (x,())=some (p x))(hl:l.length<1099511627776)(hn:l.length<n):uz n l φ=some (qW p l):=fF p h hl hn
theorem sM{l:List ax}{φ:(ax×Unit)->Option Bool}(p:ax->Bool)(h:∀x∈l,φ (x,())=some (p x))(hl:l.length<1099511627776)(hn:l.length<n):je n l φ=some (l.any p):=by unfold je;rw[IY p h hl hn,ai,pE]
theorem abr:∀(l:List Int) x,(l++[x]).sum=l.sum+x
 |[],x=>by simp
 |a::l,x=>by rw[List.cons_append,List.sum_cons,List.sum_cons,abr l x];omega
theorem akj{r:ax}(h:fc r=true):yZ r=some (SB r):=by have hb:=IX h;unfold yZ yA;rw[jF,h];simp;simp at h;unfold SB at*;rw[dw (x:=r.x1 -r.x0),dw (x:=r.y1 -r.y0),dw (by omega) (by omega)]
theorem XL{a:List ax}(ha:a.length<=900)(hn:1000<=n):N8 n a=some (bif cV a then LY a else 0):=by
 unfold N8;rw[jf (by omega) (by omega) hn];simp;cases hr:cV a with
 |false=>rfl
 |true=>
  have ok:=(uH hr).1;have:=iD (step:=ED a) (λ i=>(LY (a.take i),(i:Nat))) a.length (LY a) (λ i hi=>?_) ?_ n (by omega);have e:LY (a.take 0)=0:=rfl;rw[e,ip]at this;simp[this];have c:decide ((i:Int)<a.length)=true:=by simpa using hi
  have h1:=XK (l:=a.take i) λr hr=>ok r (List.mem_of_mem_take hr);rw[length_take]at h1;have h2:=IX (ok _ (getElem_mem hi));have e:LY (a.take (i+1))=LY (a.take i)+SB a[i]:=by rw[iL hi];unfold LY;rw[map_append];exact abr _ _
  simp only[ED,c,aj,aU hi,ai,akj (ok _ (getElem_mem hi))];rw[aP (by omega),dw (by omega) (by omega),e];simp[ED]
theorem QC{α:Type}(p:α->Bool) l:(match mV p l with |some _=>true |none=>false)=l.any p:=by have:=jO p l;rw[<- this];cases mV p l<;>rfl
def R0(p q:ax):Bool:=decide (max p.x0 q.x0<min p.x1 q.x1)&&decide (max p.y0 q.y0<min p.y1 q.y1)
def N2(a b:List ax):Bool:=a.any λp=>b.any λq=>R0 p q
theorem ahx{a b:List ax}(ha:a.length<1099511627776)(hb:b.length<1099511627776)(hna:a.length<n)(hnb:b.length<n):U2 n a b=some (N2 a b):=by
 unfold U2 N2;rw[sM (λ p=>b.any λq=>R0 p q) (λ p _=>?_) ha hna];rfl;show EM n p b=_;unfold EM;rw[sM (λ q=>R0 p q) (λ q _=>?_) hb hnb];rfl;show wu q p=_;unfold wu R0;have e1:max q.x0 p.x0=max p.x0 q.x0:=by omega
 have e2:min q.x1 p.x1=min p.x1 q.x1:=by omega
 have e3:max q.y0 p.y0=max p.y0 q.y0:=by omega
 have e4:min q.y1 p.y1=min p.y1 q.y1:=by omega
 first
  |(cases decide (max p.x0 q.x0<min p.x1 q.x1)<;>rfl)
  |(rw [e1,e2,e3,e4];cases decide (max p.x0 q.x0<min p.x1 q.x1)<;>rfl)
theorem ahy{a b:List ax}(hl:a.length<1099511627776)(hn:a.length<n):U1 n a b=some (decide (a=b)):=by unfold U1;rw[Dg hl hn];rfl
abbrev xj(a b:ax):Bool:=decide (a.y0<b.y0)
theorem ajd:Go.Sort.SWO xj where
 irrefl x:=by simp[xj]
 trans x y z h1 h2:=by simp only[xj,bD]at *;omega
 ntrans x y z h1 h2:=by simp only[xj,fH]at *;omega
instance:Inhabited ax:=⟨ax.mk 0 0 0 0⟩
theorem Kh{l:List ax}{φ:(ax×ax×Unit)->Option Int}(f:ax->ax->Int)(hφ:∀x y,φ (x,y,())=some (f x y))(hf:∀x y,decide (f x y<0)=xj x y)(hl:l.length<1099511627776)(_:l.length<n):vJ n l φ=some (jk xj l):=
 aeS f hφ hf ajd hl
structure aqM(R:List bP):Prop where
 runs:Runs R
 len:R.length<=200
 col:∀s∈R,Can s.column/\∀q∈s.column,0<=q.from_/\q.from_<q.to/\q.to<=1048576
 xs:∀s∈R,0<=s.x0/\s.x0<s.x1/\s.x1<=1048576
 AH:(R.flatMap λs=>s.column.map (·.from_)).length<=200
theorem ahz(p:Nat->Bool)(N:Nat):(mV p (List.range N)=none->(List.range N).any p=false)/\(∀ i,mV p (List.range N)=some i->(List.range N).any p=true):=by refine⟨λ h=>?_,λi h=>?_⟩;rw[<- jO,h];rfl;rw[<- jO,h];rfl
theorem IZ{W O:Type}{step:Int->Option (Int⊕(W⊕O))}(N:Nat)(p:Nat->Bool)(w:W)(o:O)
 (h:∀i,i<N->step i=some (bif p i then .inr (.inr o)else .inl (i+1:Nat)))
 (hend:step N=some (.inr (.inl w))) (n:Nat) (hn:N<n):iter step n 0=some (bif (List.range N).any p then .inr o else .inl w):=by
 have:=kZ (l:=List.range N) (step:=step) (λ i=>(i:Nat)) p w (λ _=>o) (λ i hi=>by rw[List.length_range]at hi;rw[List.getElem_range];exact h i hi) (by rw[List.length_range];exact hend) n (by rw[List.length_range];exact hn);rw[ip]at this;rw[this];have⟨r1,r2⟩:=ahz p N;cases hf:mV p (List.range N)with
 |none=>rw[r1 hf];rfl
 |some i=>rw[r2 i hf];rfl
theorem I4{p:List dP}(hl:p.length<=1000)(hn:2000<=n):iter (qp n p (fT p)) n 0=some (bif (List.range p.length).any (Mn p)then .inr false else .inl ()):=by
 refine IZ p.length (Mn p) () false (λ i hi=>?_) ?_ n (by omega);have nz:((p.length:Int) !=0)=true:=by simp;intro h;rw[h]at hi;simp at hi
 have md:(i+1)%p.length<p.length:=Nat.mod_lt _ (by omega);have w:i64.wrap (i+1)=(i+1:Nat):=aP (by omega);have g1:bj (fT p) ((0:Nat)+(i:Nat))=some (jg p i):=by rw[bH (by rw[dM];exact hi),zi]
 have g2:bj (fT p) ((0:Nat)+((i+1)%p.length:Nat))=some (jg p ((i+1)%p.length)):=by rw[bH (by rw[dM];exact md),zi]
 obtain⟨r,hr1,hr2⟩:=LW (n:=n) (qT p 0) (qT p i) (by omega);have g3:bj p 0=some (qT p 0):=by rw[anW (by omega),<- U7]
 have g4:bj p (i:Nat)=some (qT p i):=by rw[aU hi,<- U7]
 have dz:decide ((i:Int)>0)=decide (0<i):=by rw[eH];simp
 have pt:dP.mk (jg p i).mm (jg p i).qt=qT p i:=rfl;simp only[qp,dM,bV hi,aj,bA hi,g1,g2,ai,nz,w,abp,bA md,pt,Ox,nJ,Di,g3,g4,hr1,hr2,dz,Option.map_some];unfold Mn;generalize U8 (qT p i)=b1;generalize (((jg p i).mm==(jg p i).mT)==((jg p i).qt==(jg p i).vl))=b2;generalize (vp (jg p i)==vp (jg p ((i+1)%p.length)))=b3;generalize decide (0<i)=b4;generalize U9 (qT p 0) (qT p i)=b5;cases b1<;>cases b2<;>cases b3<;>cases b4<;>cases b5<;>rfl;simp[qp,dM]
theorem I5{p:List dP}(hl:p.length<=1000)(hn:2000<=n){i:Nat}(hi:i<p.length):
 iter (iU (fT p) (i:Nat)) n ((i+2:Nat))=some (bif (List.range p.length).any λk=>decide (i+2<=k)&&Tw p i k then .inr (.inr (.inr false))else .inl ()):=by
 have st:∀k,k<p.length->iU (fT p) (i:Nat) (k:Nat)=some (bif Tw p i k then .inr (.inr (.inr (.inr false)))else .inl (k+1:Nat)):=by
  intro k hk;have g1:bj (fT p) ((0:Nat)+(i:Nat))=some (jg p i):=by rw[bH (by rw[dM];exact hi),zi]
  have g2:bj (fT p) ((0:Nat)+(k:Nat))=some (jg p k):=by rw[bH (by rw[dM];exact hk),zi]
  have w:i64.wrap (i64.wrap ((i:Nat)+(p.length:Nat)) -(k:Nat))=(i+p.length -k:Nat):=by rw[dw (x:=(i:Nat)+(p.length:Nat)),dw (by omega) (by omega)];omega
  have dz:decide (((i+p.length -k:Nat):Int)>1)=decide (i+p.length -k>1):=by rw[eH,bD,bD];omega
  simp only[iU,dM,bV hk,aj,bA hi,bA hk,g1,g2,ai,w,dz,Dj,Di,Option.map_some,aX k];unfold Tw;cases decide (i+p.length -k>1)<;>cases S3 (jg p i) (jg p k)<;>rfl
 have main:∀m k,k+m=p.length->∀f,m<f->iter (iU (fT p) (i:Nat)) f (k:Nat)=some (bif (List.range p.length).any λj=>decide (k<=j)&&Tw p i j then .inr (.inr (.inr false))else .inl ()):=by
  intro m
  induction m with
  |zero=>
   intro k hk f hf;obtain⟨f,rfl⟩:∃g,f=g+1:=⟨f -1,by omega⟩;have:k=p.length:=(by omega);subst this;have e:((List.range p.length).any λj=>decide (p.length<=j)&&Tw p i j)=false:=(by rw[Bool.eq_false_iff];intro h;rw[any_eq_true]at h;obtain⟨j,h1,h2⟩:=h;rw[List.mem_range]at h1;simp at h2;omega);rw[e];refine fD ?_;simp[iU,dM]
  |succ m ih=>
   intro k hk f hf;obtain⟨f,rfl⟩:∃g,f=g+1:=⟨f -1,by omega⟩;have hkl:k<p.length:=(by omega);have h1:=st k hkl;cases hb:Tw p i k with
   |true=>
    rw[hb]at h1;have e:((List.range p.length).any λj=>decide (k<=j)&&Tw p i j)=true:=(by rw[any_eq_true];exact⟨k,List.mem_range.2 hkl,by simp[hb]⟩);rw[e];exact fD h1
   |false=>
    rw[hb]at h1;rw[jI h1,ih (k+1) (by omega) f (by omega)];congr 2;rw[eH,any_eq_true,any_eq_true];constructor;rintro⟨j,j1,j2⟩;simp at j2;exact⟨j,j1,by simp;exact⟨by omega,j2.2⟩⟩;rintro⟨j,j1,j2⟩;simp at j2;refine⟨j,j1,?_⟩;simp;refine⟨?_,j2.2⟩;rcases Nat.lt_or_ge k j with h |h;omega;have:j=k:=(by omega);subst this;rw[hb]at j2;simp at j2
 by_cases h2:i+2<=p.length;exact main (p.length -(i+2)) (i+2) (by omega) n (by omega);obtain⟨n,rfl⟩:∃g,n=g+1:=⟨n -1,by omega⟩;have e:((List.range p.length).any λj=>decide (i+2<=j)&&Tw p i j)=false:=by rw[Bool.eq_false_iff];intro h;rw[any_eq_true]at h;obtain⟨j,h1,h2⟩:=h;rw[List.mem_range]at h1;simp at h2;omega
 rw[e];have d:decide (((i+2:Nat):Int)<(p.length:Nat))=false:=by rw[fH];omega
 refine fD ?_;simp only[iU,dM,d,au]
theorem I6{p:List dP}(hl:p.length<=1000)(hn:2000<=n):iter (qw n (fT p)) n 0=some (bif (List.range p.length).any λi=>(List.range p.length).any λk=>decide (i+2<=k)&&Tw p i k then .inr false else .inl ()):=by
 refine IZ p.length _ () false (λ i hi=>?_) ?_ n (by omega);have w2:i64.wrap (i+2)=(i+2:Nat):=by rw[dw (by omega) (by omega)];omega
 simp only[qw,dM,bV hi,aj,w2,I5 hl hn hi,aX i];cases (List.range p.length).any λk=>decide (i+2<=k)&&Tw p i k<;>rfl;simp[qw,dM]
theorem QD p (hn:2000<=n):vZ n p=some (QB p):=by
 unfold vZ QB;by_cases h4:p.length<4;have d1:decide ((p.length:Int)<4)=true:=by simp;omega
 have d2:decide (4<=p.length)=false:=by simp;omega
 rw[d1,d2];rfl;have d1:decide ((p.length:Int)<4)=false:=by simp;omega
 have d2:decide (4<=p.length)=true:=by simp;omega
 by_cases h60:p.length>60;have d3:decide ((p.length:Int)>60)=true:=by simp;omega
 have d4:decide (p.length<=60)=false:=by simp;omega
 rw[d1,d2,d3,d4];rfl;have d3:decide ((p.length:Int)>60)=false:=by simp;omega
 have d4:decide (p.length<=60)=true:=by simp;omega
 have g:bj (fT p) ((0:Nat)+0)=some (jg p 0):=by have:=bH (l:=fT p) (i:=0) (by rw[dM];omega);rw[zi]at this;exact this
 have i0:cN 0 (fT p).length=true:=by have:=bA (i:=0) (n:=(fT p).length) (by rw[dM];omega);simpa using this
 rw[d1,d2,d3,d4];simp only[au,ai,AO (n:=n) (p:=p) (by omega) (by omega),I4 (n:=n) (p:=p) (by omega) hn,Bool.true_and];cases (List.range p.length).any (Mn p)with
 |true=>rfl
 |false=>
  simp only[au,iy,I6 (n:=n) (p:=p) (by omega) hn];cases (List.range p.length).any λi=>(List.range p.length).any λk=>decide (i+2<=k)&&Tw p i k with
  |true=>rfl
  |false=>
   simp only[au,iy,i0,aj,g,ai,nJ];rfl
def Bv(p:List dP)(x:Int):List Int:=((fT p).filter λs=>!vp s&&(decide (min s.mm s.mT<=x)&&decide (x<max s.mm s.mT))).map (·.qt)
def FP(x0 x1:Int):List Int->List ax
 |a::b::l=>⟨x0,a,x1,b⟩::FP x0 x1 l
 |_=>[]
def oS(p:List dP):List Int:=Zt (p.map (·.x))
def XM(p:List dP):List ax:=(jG (λ a b=>FP a b (ko oX (Bv p a))) (oS p)).flatten
def xY(p:List dP):List ax×Int:=if QB p=true then(if (XM p).length>200 then([],6)else(XM p,0))else([],10)
theorem ahA{p:List dP}(h:QB p=true):4<=p.length/\p.length<=60:=by unfold QB at h;simp at h;exact⟨h.1,h.2.1⟩
theorem F3{p:List dP}(hl:p.length<=1000)(hn:2000<=n):iter (l5 p) n (0,[])=some (p.map (·.x)):=by
 have:=eF (l:=p) (step:=l5 p) (λ i s=>(i,s)) (λ r s=>s++[r.x]) (λ s=>s) (λ i s=>s.length<=i)
  (λ i hi s hs=>?_) (λ s hs=>by simp[l5]) n (by omega) [] (aB _)
 rw[ip]at this;rw[this];have gen:∀(ys:List dP) s,ys.foldl (λ s r=>s++[r.x]) s=s++ys.map (·.x):=by
  intro ys
  induction ys with
  |nil=>intro s;simp
  |cons y ys ih=>intro s;rw[foldl_cons,ih];simp
 congr 1;simpa using gen p [];have ap:bK s.length s.length (sub ([(p[i]).x]:List Int) 0 1).length 1 8=true:=dx (n:=1) (by omega) (by simp[maxLen];omega);simp only[l5,bV hi,aj,aU hi,ai,ap,fu,aJ];refine⟨?_,by simp;omega⟩;rw[aP (by omega)];rfl
theorem F4{p:List dP}(hl:p.length<=1000)(hn:2000<=n) es (i:Nat) (hi:i<es.length):iter (l6 ((),es) (fT p) (i:Nat)) n (0,[])=some (Bv p es[i]):=by
 have:=eF (l:=fT p) (step:=l6 ((),es) (fT p) (i:Nat)) (λ i s=>(i,s)) (λ r s=>bif !vp r&&(decide (min r.mm r.mT<=es[i])&&decide (es[i] <max r.mm r.mT))then s++[r.qt]else s) (λ s=>s) (λ i s=>s.length<=i)
  (λ j hj s hs=>?_) (λ s hs=>by simp[l6]) n (by rw[dM];omega) [] (aB _)
 rw[ip]at this;rw[this];have gen:∀(ys:List jJ) s,ys.foldl (λ s r=>bif !vp r&&(decide (min r.mm r.mT<=es[i])&&decide (es[i] <max r.mm r.mT))then s++[r.qt]else s) s=s++(ys.filter λs=>!vp s&&(decide (min s.mm s.mT<=es[i])&&decide (es[i] <max s.mm s.mT))).map (·.qt):=by
  intro ys
  induction ys with
  |nil=>intro s;simp
  |cons y ys ih=>
   intro s;rw[foldl_cons,ih,List.filter_cons];cases !vp y&&(decide (min y.mm y.mT<=es[i])&&decide (es[i] <max y.mm y.mT))<;>simp
 congr 1;exact gen (fT p) [];rw[dM]at hj;have g:bj (fT p) ((0:Nat)+(j:Nat))=some (fT p)[j]:=bH (by rw[dM];exact hj);have ap:bK s.length s.length (sub ([((fT p)[j]'(by rw[dM];exact hj)).qt]:List Int) 0 1).length 1 8=true:=dx (n:=1) (by omega) (by simp[maxLen];omega);generalize hr:(fT p)[j]'(by rw[dM];exact hj)=r at*;simp only[l6,dM,bV hj,aj,bA hj,g,ai,nJ,bA hi,bH hi,Di,ap,fu,aJ,aX j];cases vp r<;>cases decide (min r.mm r.mT<=es[i])<;>cases decide (es[i] <max r.mm r.mT)<;>refine⟨rfl,?_⟩<;>simp<;>omega
theorem abt(x0 x1:Int):∀l:List Int,(FP x0 x1 l).length<=l.length
 |[] |[_]=>by simp[FP]
 |a::b::l=>by have:=abt x0 x1 l;simp[FP];omega
theorem F5 es (i:Nat) (hi:i+1<es.length) (he:es.length<=10000) (w2 r8:List Int) (hw:w2.length=r8.length) (hr:r8.length<=1000) out (ho:out.length<=10000000) (hn:2000<=n):
 iter (jv ((),es) (i:Nat) w2 r8) n (0,out)=some (out++FP (es[i]'(by omega)) es[i+1] r8):=by
 have main:∀(m k:Nat) out,k+m=r8.length->out.length<=10000000+k->∀f,m<f->iter (jv ((),es) (i:Nat) w2 r8) f ((k:Nat),out)=some (out++FP (es[i]'(by omega)) es[i+1] (r8.drop k)):=by
  intro m
  induction m using Nat.strongRecOn with
  |ind m ih=>
   intro k out hk hko f hf;obtain⟨f,rfl⟩:∃g,f=g+1:=⟨f -1,by omega⟩;have w1:i64.wrap (k+1)=(k+1:Nat):=aP (by omega);have w3:i64.wrap (k+2)=(k+2:Nat):=(by rw[dw (by omega) (by omega)];omega);have w4:i64.wrap (i+1)=(i+1:Nat):=aP (by omega);by_cases h2:k+1<r8.length;have d:decide (((k+1:Nat):Int)<(w2.length:Nat))=true:=(by rw[hw];exact bV h2);have ap:bK out.length out.length (sub ([(ax.mk (es[i]'(by omega)) (r8[k]'(by omega)) es[i+1] r8[k+1])]:List ax) 0 1).length 1 32=true:=dx (n:=1) (by omega) (by simp[maxLen];omega);have st:jv ((),es) (i:Nat) w2 r8 ((k:Nat),out)=some (.inl ((k+2:Nat),out++[ax.mk (es[i]'(by omega)) (r8[k]'(by omega)) es[i+1] r8[k+1]])):=(by simp only[jv,w1,w3,w4,d,aj,bA (show i<es.length by omega),bH (show i<es.length by omega),ai,bA (show k<w2.length by omega),bH (show k<r8.length by omega),bA hi,bH hi,bA (show k+1<w2.length by omega),bH h2,ap,fu,aJ];rfl);have dr:r8.drop k=r8[k]::r8[k+1]::r8.drop (k+2):=(by rw[List.drop_eq_getElem_cons (by omega),List.drop_eq_getElem_cons h2]);rw[jI st,ih (m -2) (by omega) (k+2) _ (by omega) (by rw[fe,List.length_singleton];omega) f (by omega),dr];simp[FP];have d:decide (((k+1:Nat):Int)<(w2.length:Nat))=false:=(by rw[hw,fH];omega);have e:FP (es[i]'(by omega)) es[i+1] (r8.drop k)=[]:=by
    have hl:(r8.drop k).length<=1:=by rw[length_drop];omega
    match r8.drop k,hl with
    |[],_ |[_],_=>rfl
    |_::_::_,h=>simp at h
   rw[e,List.append_nil];refine fD ?_;simp only[jv,w1,d,au,aJ,aj]
 have:=main r8.length 0 out (by omega) (by omega) n (by omega);rw[ip,List.drop_zero]at this;exact this
theorem aok p:(oS p).length<=p.length:=by have h:=oQ (ko oX (p.map (·.x)));rw[bW,length_map]at h;exact h
theorem XO p x:(Bv p x).length<=p.length:=by unfold Bv;rw[length_map,<- dM p];exact length_filter_le _ _
theorem I7{α:Type}(b:Nat):∀l:List (List α),(∀ x∈l,x.length<=b)->l.flatten.length<=l.length*b
 |[],_=>by simp
 |x::l,h=>by have h1:=I7 b l λy hy=>h y (dS _ hy);have h2:=h x List.mem_cons_self;rw[List.flatten_cons,fe,fq,Nat.add_mul];omega
theorem F6{p:List dP}(hl:p.length<=1000)(hn:2000<=n):
 iter (l7 n ((),oS p) (fT p)) n (0,[])=some (XM p):=by
 have hx:=aok p;obtain⟨p1,p2⟩:=rY (λ a b=>FP a b (ko oX (Bv p a))) (oS p)
 let C:=jG (λ a b=>FP a b (ko oX (Bv p a))) (oS p)
 have hC:C.length=(oS p).length -1:=p1;have cl:∀c∈C,c.length<=1000:=by intro c hc;obtain⟨i,hi,rfl⟩:=mem_iff_getElem.1 hc;have:=p2 i (by omega) hi;show(C[i]).length<=1000;rw[show C[i]=_ from this];have h1:=abt (oS p)[i] (oS p)[i+1] (ko oX (Bv p (oS p)[i]));rw[bW]at h1;have h2:=XO p (oS p)[i];omega
 have bl:∀i,((C.take i).flatten).length<=1000*1000:=by
  intro i;have h1:=I7 1000 (C.take i) λx hx=>cl x (List.mem_of_mem_take hx);have h2:(C.take i).length<=1000:=by rw[length_take];omega
  exact Nat.le_trans h1 (Nat.mul_le_mul_right _ h2)
 have main:=iD (step:=l7 n ((),oS p) (fT p)) (λ i=>((i:Nat),(C.take i).flatten)) C.length (XM p) (λ i hi=>?_) ?_ n (by omega);simpa using main;have hi2:i+1<(oS p).length:=by omega
 have hw:i64.wrap (((oS p).length:Nat) -1)=(C.length:Nat):=by rw[dw (by omega) (by omega)];omega
 have bi:=bl i;have cr:=XO p (oS p)[i];have e:C.take (i+1)=C.take i++[FP (oS p)[i] (oS p)[i+1] (ko oX (Bv p (oS p)[i]))]:=by rw[iL hi];congr 2;exact p2 i hi2 hi
 simp only[l7,hw,bV hi,aj,length_nil,aJ,F4 hl hn (oS p) i (by omega),ai];rw[kL (by omega) (by omega)];simp;rw[F5 (oS p) i hi2 (by omega) (Bv p (oS p)[i]) (ko oX (Bv p (oS p)[i])) (by rw[bW]) (by rw[bW];omega) _ (by omega) hn];simp[e,aX i];have hw:i64.wrap (((oS p).length:Nat) -1)=((oS p).length:Nat) -1:=dw (by omega) (by omega);have d:decide ((C.length:Int)<((oS p).length:Nat) -1)=false:=by rw[fH];omega
 simp[l7,hw,d];rfl
theorem OG p (hn:2000<=n):um n p=some (xY p):=by
 unfold um xY;rw[QD p hn];simp;cases hr:QB p with
 |false=>rfl
 |true=>
  have⟨_,hl⟩:=ahA hr;simp[F3 (n:=n) (p:=p) (by omega) hn];rw[kL (by rw[length_map];omega) (by rw[length_map];omega)];simp[bW];rw[mE (by rw[bW,length_map];omega) (by rw[bW,length_map];omega)];simp[AO (n:=n) (p:=p) (by omega) (by omega)];have hE:iG (ko oX (p.map (·.x)))=oS p:=rfl;rw[hE,F6 (by omega) hn];simp;by_cases sk:(XM p).length>200;have:decide ((((XM p).length:Nat):Int)>200)=true:=by simp;omega
  rw[this,aS sk];rfl;have:decide ((((XM p).length:Nat):Int)>200)=false:=by simp;omega
  rw[this,aR sk];rfl
theorem ae9 p:(xY p).1.length<=200:=by unfold xY;split;split;simp;simp;omega;simp
def FF(a b:ax):Int:=bif(!fc a || !fc b)then -1 else max (max 0 (i64.wrap ((max a.x0 b.x0) -(min a.x1 b.x1)))) (i64.wrap ((max a.y0 b.y0) -(min a.y1 b.y1)))
theorem afa(a b:ax):N0 a b=some (FF a b):=by unfold N0 FF;rw[jF,jF];simp only[ai];cases fc a<;>cases fc b<;>rfl
def zr(a b:List ax):Int×Bool:=
 bif(decide (a=[]) || (decide (b=[]) || (!cV a || !cV b)))then(0,false)else(a.foldl (λ m x=>b.foldl (λ m y=>min m (FF x y)) m) 1048576,true)
theorem ZE{b:List ax}(hb:b.length<1099511627776)(hn:b.length<n)(x:ax)(m:Int):iter (C9 b x) n (m,(0:Int))=some (b.foldl (λ m y=>min m (FF x y)) m):=by
 have:=fV (l:=b) (step:=C9 b x) (λ i (s:Int)=>(s,(i:Int))) (λ y m=>min m (FF x y)) (λ s=>s) (λ i hi s=>?_) (λ s=>by simp[C9]) n hn m
 ·exact this
 ·have hi':decide ((i:Int)<(b.length:Int))=true:=by simpa using hi
  simp only[C9,hi',aj,aU hi,ai,afa];rw[aP (by omega)]
theorem akk{a b:List ax}(ha:a.length<=900)(hb:b.length<=900)(hn:1000<=n):Xt n a b=some (zr a b):=by
 unfold Xt zr;have z:∀l:List ax,(((l.length:Int))==0)=decide (l=[]):=λl=>by cases l<;>simp<;>omega
 rw[z a,z b,jf (by omega) (by omega) hn,jf (by omega) (by omega) hn];have loop:(iter (Da n a b) n ((1048576:Int),(0:Int)))=some (a.foldl (λ m x=>b.foldl (λ m y=>min m (FF x y)) m) 1048576):=by
  have:=fV (l:=a) (step:=Da n a b) (λ i (s:Int)=>(s,(i:Int))) (λ x m=>b.foldl (λ m y=>min m (FF x y)) m) (λ s=>s) (λ i hi s=>?_) (λ s=>by simp[Da]) n (by omega) 1048576
  ·exact this
  ·have hi':decide ((i:Int)<(a.length:Int))=true:=(by simpa using hi);simp only[Da,hi',aj,aU hi,ai];rw[ZE (by omega) (by omega),ai,aP (by omega)]
 simp only[ai,loop];cases decide (a=[])<;>cases decide (b=[])<;>cases cV a<;>cases cV b<;>rfl
def Nx:fw:=fw.mk 0 0 [] []
def cZ(land:List fw)(id:Int):fw×Bool:=match land.find? λt=>t.id==id with
 |some t=>(t,true)
 |none=>(Nx,false)
abbrev RW(t:fw):Prop:=t.area.length<=900/\t.from_.length*8<=140737488355328
theorem afc{t:fw}(h:RW t):C8 t=some t:=by unfold C8;have hc:xJ t.from_=some t.from_:=Aj (b:=8) h.2 (by simp[maxLen];omega);rw[Df (by omega),ai,hc,ai];simp
theorem LZ{α:Type}(p:α->Bool) l:(∃ (i:Nat) (h:i<l.length),mV p l=some i/\l.find? p=some l[i])\/(mV p l=none/\l.find? p=none):=by rcases yQ p l with ⟨i,hi,h1,h2,h3⟩ |⟨h1,h2⟩;refine .inl ⟨i,hi,h1,?_⟩;rw[List.find?_eq_some_iff_getElem];exact⟨h2,i,hi,rfl,λj hj=>by simpa using h3 j hj⟩;refine .inr ⟨h1,?_⟩;rw[List.find?_eq_none];intro x hx;rw[h2 x hx];simp
theorem L6{land:List fw}{id:Int}(h:∀t∈land,RW t)(hl:land.length<1099511627776)(hn:land.length<n):pG n land id=some (cZ land id):=by
 unfold pG;have:=kZ (l:=land) (step:=rV land id) (λ i=>i) (λ t=>t.id==id) () (λ i=>(land.getD i Nx,true)) (λ i hi=>?_) ?_ n hn;rw[ip]at this;rw[this];unfold cZ;rcases LZ (λ t:fw=>t.id==id) land with ⟨i,hi,h1,h2⟩ |⟨h1,h2⟩;rw[h1,h2];simp[hi];rw[h1,h2];rfl;have hi':decide ((i:Int)<land.length)=true:=by simpa using hi
 simp only[rV,hi',aj,aU hi,ai,afc (h _ (getElem_mem hi))];cases land[i].id==id with
 |true=>simp[hi]
 |false=>simp only[au];rw[aP (by omega)]
 simp[rV]
def L8(t:fw)(id d:Int)(u:fw):Bool:=(zr t.area u.area).2&&(decide ((zr t.area u.area).1<=d)&&(u.id !=id))
def AP(land:List fw)(t:fw)(id d:Int):List Int:=(land.filter λu=>L8 t id d u).map (·.id)
def HH(land:List fw)(id d:Int):List Int:=
 bif(cZ land id).2 then Zt (AP land (cZ land id).1 id d)else []
theorem XP{land:List fw}(hl:land.length<10995116277)(hn:land.length<n):iter (yX land) n ((0:Int),([]:List (List ax)))=some (land.map (·.area)):=by
 have:=iD (step:=yX land) (λ i=>((i:Int),(land.take i).map (·.area))) land.length (land.map (·.area)) (λ i hi=>?_) ?_ n hn
 ·simpa using this
 ·have hi':decide ((i:Int)<(land.length:Int))=true:=by simpa using hi
  have ap:bK ((land.take i).map (·.area)).length ((land.take i).map (·.area)).length (sub ([land[i].area]:List (List ax)) 0 1).length 1 24=true:=by
   refine dx (n:=1) ?_ ?_
   ·rw[length_map,length_take];omega
   ·rw[length_map,length_take];simp only[maxLen];omega
  simp only[yX,hi',aj,aU hi,ai,ap,fu,aJ];rw[aP (by omega),iL hi,map_append];rfl
 ·simp[yX]
theorem ZF{land:List fw}(h:∀t∈land,t.area.length<=900) id:(cZ land id).1.area.length<=900:=by unfold cZ;split;rename_i t ht;exact h t (List.mem_of_find?_eq_some ht);simp[Nx]
theorem ahC{land:List fw}{id d:Int}(h:∀t∈land,t.area.length<=900)(hF:pG n land id=some (cZ land id))(hl:land.length<=100)(hn:1000<=n):N7 n land id d=some (HH land id d):=by
 unfold N7 HH;rw[hF];simp only[ai];cases hf:(cZ land id).2 with
 |false=>rfl
 |true=>
  have ht:=ZF h id;simp only[Bool.not_true,au,length_nil,aJ,aj,XP (land:=land) (n:=n) (by omega) (by omega),ai];have key:iter (yY n land id d (cZ land id) (land.map (·.area))) n ((0:Int),([]:List Int))=some (AP land (cZ land id).1 id d):=by
   have:=eF (l:=land) (step:=yY n land id d (cZ land id) (land.map (·.area))) (λ i (s:List Int)=>((i:Int),s)) (λ u s=>bif L8 (cZ land id).1 id d u then s++[u.id]else s) (λ s=>s) (λ i s=>s.length<=i)
    (λ i hi s hs=>?_) (λ s hs=>by simp[yY]) n (by omega) [] (aB _)
   ·rw[ip]at this;rw[this];have gen:∀(ys:List fw) (s:List Int),ys.foldl (λ s u=>bif L8 (cZ land id).1 id d u then s++[u.id]else s) s=s++AP ys (cZ land id).1 id d:=by
     intro ys
     induction ys with
     |nil=>intro s;simp[AP]
     |cons y ys ih=>
      intro s;simp only[foldl_cons,ih,AP];cases hy:L8 (cZ land id).1 id d y<;>simp[hy]
    rw[gen];simp
   ·have hlm:(land.map (·.area)).length=land.length:=(by simp);have hi':decide ((i:Int)<(((land.map (·.area)).length:Nat):Int))=true:=(by rw[hlm];simpa using hi);have ib:cN (i:Int) (land.map (·.area)).length=true:=bA (by omega);have g:bj (land.map (·.area)) (((0:Nat):Int)+(i:Int))=some land[i].area:=(by rw[Eu];simp[hi]);have hu:=h _ (getElem_mem hi);have ap:bK s.length s.length (sub ([land[i].id]:List Int) 0 1).length 1 8=true:=dx (n:=1);have gp:Xt n (cZ land id).1.area land[i].area=some (zr (cZ land id).1.area land[i].area):=akk ht hu hn;simp only[yY,hi',aj,ib,g,ai,gp,aU hi];have e:((bif (zr (cZ land id).1.area land[i].area).2 then(bif (decide ((zr (cZ land id).1.area land[i].area).1<=d))then some (land[i].id !=id)else some false)else some false):Option Bool)=some (L8 (cZ land id).1 id d land[i]):=(by unfold L8;cases (zr (cZ land id).1.area land[i].area).2<;>cases decide ((zr (cZ land id).1.area land[i].area).1<=d)<;>rfl);rw[e];simp only[ai];cases L8 (cZ land id).1 id d land[i]with
    |true=>
     simp only[aj,ap,fu,aJ,ai];refine⟨?_,by simp;omega⟩;rw[aP (by omega)];rfl
    |false=>
     simp only[au,aJ,aj,ai];exact⟨by rw[aP (by omega)],by omega⟩
  have hlen:(AP land (cZ land id).1 id d).length<=100:=by unfold AP;rw[length_map];exact Nat.le_trans (length_filter_le _ _) hl
  rw[key];simp only[ai,aJ,aj];rw[kL (by omega) (by omega)];simp only[ai,bW,aJ,aj];rw[mE (by rw[bW];omega) (by rw[bW];omega)];simp only[ai,eU,aJ,aj];rfl
theorem ahD{land:List fw}{id d:Int}(h:∀t∈land,RW t)(hl:land.length<=100)(hn:1000<=n):N7 n land id d=some (HH land id d):=ahC (λ t ht=>(h t ht).1) (L6 h (by omega) (by omega)) hl hn
def acW:ByteArray:=⟨#[110,111,116,105,99,101]⟩
def PT(t:bO)(name:ByteArray):Int:=match t.rows.find? λe=>ByteArray.toList e.name==ByteArray.toList name with
 |some e=>e.n
 |none=>t.rk
def Hk(tables:List bO)(name:ByteArray):Int:=match tables.find? λt=>ByteArray.toList t.name==ByteArray.toList acW with
 |some t=>PT t name
 |none=>0
theorem EW{α:Type}(p:α->Bool) l:(∃ (i:Nat) (h:i<l.length),qW p l=i/\l.find? p=some l[i])\/(qW p l= -1/\l.find? p=none):=by rcases LZ p l with ⟨i,hi,h1,h2⟩ |⟨h1,h2⟩;exact .inl ⟨i,hi,by simp[qW,h1],h2⟩;exact .inr ⟨by simp[qW,h1],h2⟩
theorem abv{p:bL}{name:ByteArray}(h:p.tables.length<n)(hl:p.tables.length<1099511627776)(hr:∀t∈p.tables,t.rows.length<n/\t.rows.length<1099511627776):Qs n p name=some (Hk p.tables name):=by
 unfold Qs Hk;rw[u7 (λ t=>ByteArray.toList t.name==ByteArray.toList acW) (λ x _=>rfl) hl h];simp only[ai];rcases EW (λ t:bO=>ByteArray.toList t.name==ByteArray.toList acW) p.tables with ⟨i,hi,h1,h2⟩ |⟨h1,h2⟩
 ·rw[h1,h2];have d:decide ((i:Int)<0)=false:=by simp
  obtain⟨r1,r2⟩:=hr _ (getElem_mem hi);simp only[d,au,aU hi,ai];rw[ve (λ e=>ByteArray.toList e.name==ByteArray.toList name) (λ x _=>rfl) r2 r1];simp only[ai,PT];rcases EW (λ e:aZ=>ByteArray.toList e.name==ByteArray.toList name) p.tables[i].rows with ⟨j,hj,g1,g2⟩ |⟨g1,g2⟩
  ·rw[g1,g2];have d:decide ((j:Int)<0)=false:=(by simp);simp only[d,au,aU hj,ai]
  ·rw[g1,g2];rfl
 ·rw[h1,h2];rfl
def gC:List ByteArray:=[⟨#[104,111,109,101]⟩,⟨#[115,104,111,112]⟩,⟨#[119,111,114,107]⟩,⟨#[112,97,114,107]⟩,⟨#[112,108,97,110,116]⟩,⟨#[104,97,108,108]⟩]
def nameOf(use:Int):Option ByteArray:=bj gC use
def apz(tables:List bO)(m:Int)(v:aF):Int:=match nameOf v.use with
 |some nm=>max m (Hk tables nm)
 |none=>m
def amE(tables:List bO)(m:Int)(ph:kW):Int:=ph.bk.foldl (apz tables) m
def amF(tables:List bO)(d:aM):Int:=d.phases.foldl (amE tables) 0
abbrev S0(ts:List bO):Prop:=ts.length<=100/\∀t∈ts,t.rows.length<=100
abbrev XQ(d:aM):Prop:=d.phases.length<=100/\∀p∈d.phases,p.bk.length<=100
theorem L9{p:bL}(hp:S0 p.tables){ph:kW}(hv:ph.bk.length<=100)(hn:1000<=n)(m:Int):iter (pY n p ph) n (m,(0:Int))=some (amE p.tables m ph):=by
 have:=fV (l:=ph.bk) (step:=pY n p ph) (λ i (s:Int)=>(s,(i:Int))) (λ v m=>apz p.tables m v) (λ s=>s) (λ i hi s=>?_) (λ s=>by simp[pY]) n (by omega) m
 ·exact this
 ·have hi':decide ((i:Int)<(ph.bk.length:Int))=true:=by simpa using hi
  have rw1:∀nm,Qs n p nm=some (Hk p.tables nm):=λnm=>abv (by omega) (by omega) (λ t ht=>by have:=hp.2 t ht;omega);simp only[pY,hi',aj,aU hi,ai];have e:((bif (decide (ph.bk[i].use>=(0:Int)))then some (decide (ph.bk[i].use<(6:Int)))else some false):Option Bool)=some (cN ph.bk[i].use 6):=by simp only[Bu,cN];rfl
  rw[e];simp only[ai,apz,nameOf];cases hb:cN ph.bk[i].use 6 with
  |true=>
   have hb2:0<=ph.bk[i].use/\ph.bk[i].use<6:=(by simpa[cN]using hb);obtain⟨k,hk⟩:∃k:Nat,ph.bk[i].use=(k:Int):=⟨ph.bk[i].use.toNat,by omega⟩;have hk6:k<gC.length:=(by have:gC.length=6:=rfl;omega);have g:bj gC ph.bk[i].use=some gC[k]:=(by rw[hk];exact aU hk6);have g':bj ([⟨#[104,111,109,101]⟩,⟨#[115,104,111,112]⟩,⟨#[119,111,114,107]⟩,⟨#[112,97,114,107]⟩,⟨#[112,108,97,110,116]⟩,⟨#[104,97,108,108]⟩]:List ByteArray) ph.bk[i].use=some gC[k]:=g;simp only[aj,g',ai,rw1,g];rw[aP (by omega)]
  |false=>
   have g:bj gC ph.bk[i].use=none:=by
    have hb2:¬(0<=ph.bk[i].use/\ph.bk[i].use<6):=(by intro hc;rw[show cN ph.bk[i].use 6=true by simpa[cN]using hc]at hb;cases hb);by_cases h0:0<=ph.bk[i].use
    ·obtain⟨k,hk⟩:∃k:Nat,ph.bk[i].use=(k:Int):=⟨ph.bk[i].use.toNat,by omega⟩;rw[hk,W9];exact List.getElem?_eq_none (by have:gC.length=6:=rfl;omega)
    ·simp[bj,h0]
   simp only[au,g,ai];rw[aP (by omega)]
theorem XR{p:bL}(hp:S0 p.tables){d:aM}(hd:XQ d)(hn:1000<=n):wM n p d=some (amF p.tables d):=by
 unfold wM;have:=fV (l:=d.phases) (step:=tT n p d) (λ i (s:Int)=>(s,(i:Int))) (λ ph m=>amE p.tables m ph) (λ s=>s) (λ i hi s=>?_) (λ s=>by simp[tT]) n (by omega) 0
 ·rw[ip]at this;rw[this];rfl
 ·have hi':decide ((i:Int)<(d.phases.length:Int))=true:=by simpa using hi
  simp only[tT,hi',aj,aU hi,ai];rw[L9 hp (hd.2 _ (getElem_mem hi)) hn,ai,aP (by omega)]
theorem ahE{p:bL}(hp:S0 p.tables)(hn:1000<=n):NS n p=some (max 0 (Hk p.tables ⟨#[100,97,121,115]⟩)):=by unfold NS;rw[abv (by omega) (by omega) (λ t ht=>by have:=hp.2 t ht;omega)];rfl
abbrev XT(t:dX):Prop:=t.land.length<=100/\(∀ l∈t.land,RW l)/\S0 t.ci
def amG(a0:dX):bL:=bL.mk a0.cC a0.ci a0.ct a0.aq a0.cM a0.cP a0.dt a0.cQ
def AQ(t:dX)(d:aM):List Int:=HH t.land d.lot (amF t.ci d)
def mF(t:dX)(ab:List Int):List Int:=ab.map λid=>(cZ t.land id).1.owner
def acY(t:dX)(d:aM):List Int:=Zt (mF t (AQ t d))
theorem SC l:(Zt l).length<=l.length:=by
 unfold Zt;have:=oQ (ko (λ a b=>decide (a<b)) l)
 rwa [bW]at this
theorem OH land (id d:Int):(HH land id d).length<=land.length:=by
 unfold HH;cases (cZ land id).2 with
 |true=>
  refine Nat.le_trans (SC _) ?_;unfold AP;rw[length_map];exact length_filter_le _ _
 |false=>simp
theorem ahF{t:dX}(ht:XT t){d:aM}(hd:XQ d)(hn:1000<=n):U0 n t d=some (AQ t d):=by unfold U0;have h1:wM n (bL.mk t.cC t.ci t.ct t.aq t.cM t.cP t.dt t.cQ) d=some (amF t.ci d):=XR (p:=amG t) ht.2.2 hd hn;rw[h1,ai,ahD ht.2.1 ht.1 hn];simp only[ai,eU,aJ,aj];rfl
theorem acZ{t:dX}(ht:XT t){d:aM}(hd:XQ d)(hn:1000<=n):JX n t d=some (acY t d):=by
 unfold JX;rw[ahF ht hd hn];have hlen:(AQ t d).length<=100:=Nat.le_trans (OH _ _ _) ht.1;have key:iter (uf n t (AQ t d)) n ((0:Int),([]:List Int))=some (mF t (AQ t d)):=by
  have:=iD (step:=uf n t (AQ t d)) (λ i=>((i:Int),mF t ((AQ t d).take i))) (AQ t d).length (mF t (AQ t d)) (λ i hi=>?_) ?_ n (by omega)
  ·simpa[mF]using this
  ·have hi':decide ((i:Int)<(((AQ t d).length:Nat):Int))=true:=(by simpa using hi);have ap:bK (mF t ((AQ t d).take i)).length (mF t ((AQ t d).take i)).length (sub ([(cZ t.land (AQ t d)[i]).1.owner]:List Int) 0 1).length 1 8=true:=by
    refine dx (n:=1) ?_ ?_
    ·unfold mF;rw[length_map,length_take];omega
    ·unfold mF;rw[length_map,length_take];simp only[maxLen];omega
   simp only[uf,hi',aj,bA hi,bH hi,ai];rw[L6 ht.2.1 (by have:=ht.1;omega) (by have:=ht.1;omega)];simp only[ai,ap,aj,fu,aJ];rw[aP (by omega),iL hi];simp only[mF,map_append];rfl
  ·simp[uf,mF]
 simp only[ai,length_nil,aJ,aj,key];have hol:(mF t (AQ t d)).length<=100:=by unfold mF;rw[length_map];exact hlen
 rw[kL (by omega) (by omega)];simp only[ai,bW,aJ,aj];rw[mE (by rw[bW];omega) (by rw[bW];omega)];simp only[ai,eU,aJ,aj];rfl
theorem XU{t:dX}(ht:XT t)(d:aM):(acY t d).length<=100:=by refine Nat.le_trans (SC _) ?_;unfold mF;rw[length_map];exact Nat.le_trans (OH _ _ _) ht.1
def PR(t:dX)(d:aM)(km:Int):Bool:=((acY t d).any λy=>km==y)&&((cZ t.land d.lot).2&&((cZ t.land d.lot).1.owner !=km))
theorem akm{t:dX}(ht:XT t){d:aM}(hd:XQ d){km:Int}(hn:1000<=n):Xu n t d km=some (PR t d km):=by unfold Xu PR;have l1:=XU ht d;rw[L6 ht.2.1 (by have:=ht.1;omega) (by have:=ht.1;omega),acZ ht hd hn];simp only[ai,eU,aJ,aj];rw[zf (by omega) (by omega)];simp only[ai,Bu]
theorem afd{V O:Type}{step:V->Option (V⊕O)}(R:Nat->V->Prop)(N:Nat)(Q:O->Prop)(h:∀i v,i<N->R i v->∃v',step v=some (.inl v')/\R (i+1) v')(hN:∀v,R N v->∃o,step v=some (.inr o)/\Q o):
 ∀n,N<n->∀v,R 0 v->∃o,iter step n v=some o/\Q o:=by
 have main:∀k i n v,i+k=N->k<n->R i v->∃o,iter step n v=some o/\Q o:=by
  intro k
  induction k with
  |zero=>
   intro i n v hi hn hR;obtain⟨m,rfl⟩:∃m,n=m+1:=⟨n -1,by omega⟩;have:i=N:=(by omega);subst this;have⟨o,h1,h2⟩:=hN v hR;exact⟨o,fD h1,h2⟩
  |succ k ih=>
   intro i n v hi hn hR;obtain⟨m,rfl⟩:∃m,n=m+1:=⟨n -1,by omega⟩;obtain⟨v',h1,h2⟩:=h i v (by omega) hR;obtain⟨o,h3,h4⟩:=ih (i+1) m v' (by omega) (by omega) h2;exact⟨o,by rw[jI h1,h3],h4⟩
 intro n hn v hR;exact main N 0 n v (by omega) hn hR
def Bw(z:fC):List ax:=if (xY z.corners).2=0 then(xY z.corners).1 else []
theorem ahG(z:fC):(Bw z).length<=200:=by unfold Bw;split;exact ae9 _;simp
theorem Ty(z:fC)(hn:2000<=n):xO n z=some (Bw z):=by
 unfold xO Bw;rw[OG _ hn];simp;by_cases h:(xY z.corners).2=0;have:((xY z.corners).2 !=0)=false:=by simp[h]
 rw[this,aS h];rfl;have:((xY z.corners).2 !=0)=true:=by simp[h]
 rw[this,aR h];rfl
def FQ(a b:ax):ax:=⟨max a.x0 b.x0,max a.y0 b.y0,min a.x1 b.x1,min a.y1 b.y1⟩
theorem OI(a:ax):yA a=some (bif fc a then(a,true)else(⟨0,0,0,0⟩,false)):=by unfold yA;rw[jF];simp[Di]
theorem zl(a b:ax):sJ a b=some (bif fc a&&(fc b&&fc (FQ a b))then(FQ a b,true)else(⟨0,0,0,0⟩,false)):=by unfold sJ;rw[jF,jF];simp only[ai,Di];rw[show ax.mk (max a.x0 b.x0) (max a.y0 b.y0) (min a.x1 b.x1) (min a.y1 b.y1)=FQ a b from rfl,OI];simp only[ai];generalize fc (FQ a b)=c;cases fc a<;>cases fc b<;>cases c<;>rfl
def No(r:ax):Int:=i64.wrap (i64.wrap (r.x1 -r.x0)*i64.wrap (r.y1 -r.y0))
theorem Dl{r:ax}(h:fc r=true):yZ r=some (No r):=by unfold yZ;rw[OI,h];rfl
def XV(x:ax)(n:Int)(y:ax):Int:=bif fc x&&(fc y&&fc (FQ x y))then i64.wrap (n+No (FQ x y))else n
def EX(a b:List ax):Int:=a.foldl (λ n x=>b.foldl (XV x) n) 0
theorem aon{α β:Type} c (a:α) (u v:β):(bif c then(a,u)else(a,v)).1=a:=by cases c<;>rfl
theorem I8 b (x:ax) (hb:b.length<=1000) (hn:2000<=n) (m u v:Int):∃o,iter (qx n b x) n (m,0,u,v)=some o/\o.1=b.foldl (XV x) m:=by
 refine afd (λ i (w:Int×Int×Int×Int)=>w.2.1=i/\w.1=(b.take i).foldl (XV x) m) b.length (λ (o:Int×Int×Int)=>o.1=b.foldl (XV x) m) (λ i w hi hR=>?_) (λ w hR=>?_) n (by omega) _ ⟨rfl,rfl⟩;obtain⟨w1,w2,w3,w4⟩:=w;obtain⟨h1,h2⟩:=hR;simp at h1 h2;subst h1;have e:(b.take (i+1)).foldl (XV x) m=XV x w1 b[i]:=by rw[iL hi,List.foldl_append,<- h2];rfl
 simp only[qx,bV hi,aj,aU hi,ai,zl];have e0:XV x w1 b[i]=bif fc x&&(fc b[i]&&fc (FQ x b[i]))then i64.wrap (w1+No (FQ x b[i]))else w1:=rfl;rw[e0]at e;cases hc:fc x&&(fc b[i]&&fc (FQ x b[i]))with
 |false=>
  rw[hc]at e;simp only[au,Bool.not_false,aj,ai];exact⟨_,rfl,aP (by omega),e.symm⟩
 |true=>
  rw[hc]at e;have hcc:fc (FQ x b[i])=true:=by revert hc;generalize fc (FQ x b[i])=c;cases c;cases fc x<;>cases fc b[i]<;>simp;simp
  simp only[aj,Bool.not_true,au,Dl hcc,ai,kK];rw[show ∀u v:Int,sub [u,v] 0 2=[u,v]from λ_ _=>rfl,XC _ _ (by omega)];simp only[ai,Di];simp only[show ∀u v:Int,az [u,v].length 2=true from λ_ _=>rfl,aj,ai];refine⟨_,rfl,aX i,?_⟩;rw[e];exact aon _ _ _ _
 obtain⟨w1,w2,w3,w4⟩:=w;obtain⟨h1,h2⟩:=hR;simp only at h1 h2;subst h1;simp only[qx,Ow,au];exact⟨_,rfl,by rw[h2,List.take_length]⟩
theorem QE(a b:List ax)(ha:a.length<=1000)(hb:b.length<=1000)(hn:2000<=n):∃q,wh n a b=some (EX a b,q):=by
 unfold wh;obtain⟨o,h1,h2⟩:=afd (step:=qy n a b) (λ i (w:Int×Int×Int×Int)=>w.2.1=i/\w.1=(a.take i).foldl (λ n x=>b.foldl (XV x) n) 0) a.length (λ (o:Int×Int×Int)=>o.1=EX a b) (λ i w hi hR=>by obtain⟨w1,w2,w3,w4⟩:=w;obtain⟨h1,h2⟩:=hR;simp at h1 h2;subst h1;have⟨o,g1,g2⟩:=I8 (n:=n) b a[i] hb hn w1 w3 w4;obtain⟨o1,o2,o3⟩:=o;simp only[qy,bV hi,aj,aU hi,ai,g1];refine⟨_,rfl,aP (by omega),?_⟩;simp at g2;rw[iL hi,List.foldl_append,<- h2,g2];rfl) (λ w hR=>by obtain⟨w1,w2,w3,w4⟩:=w;obtain⟨h1,h2⟩:=hR;simp only at h1 h2;subst h1;simp only[qy,Ow,au];exact⟨_,rfl,by rw[h2,List.take_length];rfl⟩) n (by omega) (0,0,1048576,0) ⟨rfl,rfl⟩;obtain⟨o1,o2,o3⟩:=o;simp at h2;subst h2;exact⟨_,by rw[h1];rfl⟩
def xZ(zs:List fC)(area:List ax):List Int:=bif cV area then zs.map λz=>EX area (Bw z)else []
theorem QF(p:bL) a (hz:p.zones.length<=100) (ha:a.length<=900) (hn:2000<=n):wm n p a=some (xZ p.zones a):=by
 unfold wm xZ;rw[jf (by omega) (by omega) (by omega)];simp;cases cV a with
 |false=>rfl
 |true=>
  have:=eF (l:=p.zones) (step:=qz n p a) (λ i s=>(i,s)) (λ z s=>s++[EX a (Bw z)]) (λ s=>s) (λ i s=>s.length<=i)
   (λ i hi s hs=>?_) (λ s hs=>by simp[qz]) n (by omega) [] (aB _)
  rw[ip]at this;simp only[Bool.not_true,au,length_nil,aJ,aj,this,ai,eU];congr 1;have gen:∀(ys:List fC) s,ys.foldl (λ s z=>s++[EX a (Bw z)]) s=s++ys.map λz=>EX a (Bw z):=by
   intro ys
   induction ys with
   |nil=>intro s;simp
   |cons y ys ih=>intro s;rw[foldl_cons,ih];simp
  exact gen p.zones [];have cl:=ahG p.zones[i];obtain⟨q,hq⟩:=QE (n:=n) a (Bw p.zones[i]) (by omega) (by omega) hn;have ap:bK s.length s.length (sub ([EX a (Bw p.zones[i])]:List Int) 0 1).length 1 8=true:=dx (n:=1) (by omega) (by simp[maxLen];omega);simp only[qz,bV hi,aj,aU hi,ai,Ty _ hn,eU,aJ,hq,ap,fu];refine⟨?_,by simp;omega⟩;rw[aP (by omega)];rfl
theorem SF zs a:(xZ zs a).length<=zs.length:=by unfold xZ;cases cV a<;>simp
def xD(zs:List fC)(l:List Int)(m:Nat):Int:=(List.range m).foldl (λ b i=>if (!((zs.getD i ⟨⟨#[]⟩,false,[]⟩).overlay)&&(decide (l.getD i 0>0)&&(decide (b<0) || decide (l.getD i 0>l.getD b.toNat 0))))=true then i else b) (-1)
def EY(zs:List fC)(l:List Int)(i:Nat):Bool:=decide (i=xD zs l l.length) || ((zs.getD i ⟨⟨#[]⟩,false,[]⟩).overlay&&decide (l.getD i 0>0))
def G4(zs:List fC)(area:List ax):List ByteArray:=((List.range (xZ zs area).length).filter (EY zs (xZ zs area))).map λi=>(zs.getD i ⟨⟨#[]⟩,false,[]⟩).name
theorem SG zs l:∀m,xD zs l m= -1\/∃k:Nat,k<m/\xD zs l m=k
 | 0=> .inl rfl
 |m+1=>by have ih:=SG zs l m;unfold xD;rw[List.range_succ,List.foldl_append];simp only[foldl_cons,List.foldl_nil];split;exact .inr ⟨m,by omega,rfl⟩;rcases ih with h |⟨k,h1,h2⟩;exact .inl h;exact .inr ⟨k,by omega,h2⟩
theorem I9{α:Type}{l:List α}{i:Nat}(d:α)(h:i<l.length):l.getD i d=l[i]:=by simp[h]
theorem QG(p:bL) l (hl:l.length<=p.zones.length) (hz:p.zones.length<=100) (hn:2000<=n):iter (qC p l) n ((-1),0)=some (xD p.zones l l.length):=by
 have main:=iD (step:=qC p l) (λ i=>(xD p.zones l i,(i:Nat))) l.length (xD p.zones l l.length) (λ i hi=>?_) (by simp[qC]) n (by omega);exact main;have hz':i<p.zones.length:=by omega
 have e:xD p.zones l (i+1)=if (!(p.zones[i]).overlay&&(decide (l[i]>0)&&(decide (xD p.zones l i<0) || decide (l[i]>l.getD (xD p.zones l i).toNat 0))))=true then(i:Int)else xD p.zones l i:=by
  conv=>lhs;unfold xD
  rw[List.range_succ,List.foldl_append];simp only[foldl_cons,List.foldl_nil,I9 _ hz',I9 _ hi];rfl
 rw[e];rcases SG p.zones l i with h |⟨k,h1,h2⟩;rw[h];have d:decide (-1<0)=true:=rfl;simp only[qC,bV hi,aj,bA hi,bH hi,ai,aU hz',d,Di,Bool.true_or,Bool.and_true,aX i];cases (p.zones[i]).overlay<;>cases decide (l[i]>0)<;>rfl;rw[h2];have d:decide ((k:Nat)<0)=false:=by simp
 have hk:k<l.length:=by omega
 simp only[qC,bV hi,aj,bA hi,bH hi,ai,aU hz',d,Di,Bool.false_or,au,bA hk,bH hk,Int.toNat_natCast,I9 _ hk,aX i];cases (p.zones[i]).overlay<;>cases decide (l[i]>0)<;>cases decide (l[i]>l[k])<;>rfl
theorem ac0(p:bL) a (hz:p.zones.length<=100) (ha:a.length<=900) (hn:2000<=n):Dc n p a=some (G4 p.zones a):=by
 unfold Dc;have sl:=SF p.zones a;rw[QF p a hz ha hn];simp;rw[QG p _ sl hz hn];simp;unfold G4;generalize hL:xZ p.zones a=l at*
 have:=eF (l:=List.range l.length) (step:=xP p l (xD p.zones l l.length)) (λ i s=>(i,s)) (λ i s=>bif EY p.zones l i then s++[(p.zones.getD i ⟨⟨#[]⟩,false,[]⟩).name]else s) (λ s=>s) (λ i s=>s.length<=i)
  (λ i hi s hs=>?_) (λ s hs=>by rw[List.length_range];simp[xP]) n (by rw[List.length_range];omega) [] (aB _)
 rw[ip]at this;simp[this];congr 1;have gen:∀(ys:List Nat) s,ys.foldl (λ s i=>bif EY p.zones l i then s++[(p.zones.getD i ⟨⟨#[]⟩,false,[]⟩).name]else s) s=s++(ys.filter (EY p.zones l)).map λi=>(p.zones.getD i ⟨⟨#[]⟩,false,[]⟩).name:=by
  intro ys
  induction ys with
  |nil=>intro s;simp
  |cons y ys ih=>
   intro s;rw[foldl_cons,ih,List.filter_cons];cases EY p.zones l y<;>simp
 exact gen (List.range l.length) [];rw[List.length_range]at hi;have hz':i<p.zones.length:=by omega
 rw[List.getElem_range];have ap:bK s.length s.length (sub ([(p.zones[i]).name]:List ByteArray) 0 1).length 1 16=true:=dx (n:=1) (by omega) (by simp[maxLen];omega);have hb:((i:Nat)==xD p.zones l l.length)=decide ((i:Nat)=xD p.zones l l.length):=by rw[eH];simp
 simp only[xP,bV hi,aj,bA hi,bH hi,ai,aU hz',hb,Di,ap,fu,aJ,EY,I9 _ hz',I9 _ hi,aX i];cases decide ((i:Nat)=xD p.zones l l.length)<;>cases (p.zones[i]).overlay<;>cases decide (l[i]>0)<;>refine⟨rfl,?_⟩<;>simp<;>omega
theorem aoo zs a:(G4 zs a).length<=zs.length:=by unfold G4;rw[length_map];have h1:=length_filter_le (EY zs (xZ zs a)) (List.range (xZ zs a).length);rw[List.length_range]at h1;have:=SF zs a;omega
def eb(a b:ByteArray):Bool:=ByteArray.toList a==ByteArray.toList b
theorem kS{l:List ByteArray}{a:ByteArray}(hl:l.length<1099511627776)(hn:l.length<n):dQ n l a=some (l.any (eb a)):=by
 unfold dQ;have e:rG n l a=acB n (λ x=>ByteArray.toList a==ByteArray.toList x) l:=by kernel_rfl
 rw[e,Ih hl hn,ai,pE];rfl
theorem qH{l:List ByteArray}{φ:(ByteArray×Unit)->Option Bool}(p:ByteArray->Bool)(h:∀x∈l,φ (x,())=some (p x))(hl:l.length<1099511627776)(hn:l.length<n):fK n l φ=some (l.any p):=by
 unfold fK;have e:qO n l φ=wK n l φ:=by kernel_rfl
 rw[e,fF p h hl hn,ai,pE]
def Va(r:bX)(zs:List ByteArray):Bool:=(decide (r.zones=[]) || r.zones.any λz=>zs.any (eb z))&&!(r.except.any λz=>zs.any (eb z))
theorem QH(r:bX) zs (h1:r.zones.length<=100) (h2:r.except.length<=100) (h3:zs.length<=100) (hn:2000<=n):qZ n r zs=some (Va r zs):=by
 have hf:∀x:ByteArray,kD n x zs=some (zs.any (eb x)):=λx=>by unfold kD;rw[kS (by omega) (by omega)];rfl
 unfold qZ Va;rw[qH (λ z=>zs.any (eb z)) (λ x _=>hf x) (by omega) (by omega),qH (λ z=>zs.any (eb z)) (λ x _=>hf x) (by omega) (by omega)];simp;have e:((r.zones.length:Int)==0)=decide (r.zones=[]):=by rw[eH,beq_iff_eq,bD];constructor;intro h;exact List.length_eq_zero_iff.1 (by omega);intro h;rw[h];rfl
 rw[e];cases decide (r.zones=[])<;>cases (r.zones.any λz=>zs.any (eb z))<;>cases (r.except.any λz=>zs.any (eb z))<;>rfl
def ru(zs:List ByteArray)(day:Int)(r:bX):Bool:=decide (r.from_<=day)&&((r.kB==0 || decide (day<r.kB))&&Va r zs)
def QI(rules:List bX)(zs:List ByteArray)(day:Int):List Nat:=(List.range rules.length).filter λi=>(rules[i]?).any (ru zs day)
abbrev ahH(r:bX):Prop:=r.zones.length<=100/\r.except.length<=100
theorem Tz(p:bL) zs day (hr:∀r∈p.rules,ahH r) (hl:p.rules.length<=100) (h3:zs.length<=100) (hn:2000<=n):uo n p zs day=some ((QI p.rules zs day).map λ(i:Nat)=>(i:Int)):=by
 unfold uo QI
 have:=eF (l:=List.range p.rules.length) (step:=rM n p zs day) (λ i s=>(i,s)) (λ i s=>bif(p.rules[i]?).any (ru zs day)then s++[(i:Int)]else s) (λ s=>s) (λ i s=>s.length<=i)
  (λ i hi s hs=>?_) (λ s hs=>by rw[List.length_range];simp[rM]) n (by rw[List.length_range];omega) [] (aB _)
 rw[ip]at this;simp[this];congr 1;have gen:∀(ys:List Nat) s,ys.foldl (λ s (i:Nat)=>bif(p.rules[i]?).any (ru zs day)then s++[(i:Int)]else s) s=s++(ys.filter λi=>(p.rules[i]?).any (ru zs day)).map λ(i:Nat)=>(i:Int):=by
  intro ys
  induction ys with
  |nil=>intro s;simp
  |cons y ys ih=>
   intro s;rw[foldl_cons,ih,List.filter_cons];cases (p.rules[y]?).any (ru zs day)<;>simp
 exact gen (List.range p.rules.length) [];rw[List.length_range]at hi;rw[List.getElem_range];obtain⟨o1,o2⟩:=hr _ (getElem_mem hi);have ap:bK s.length s.length (sub ([(i:Nat)]:List Int) 0 1).length 1 8=true:=dx (n:=1) (by omega) (by simp[maxLen];omega);have eg:(p.rules[i]?).any (ru zs day)=ru zs day p.rules[i]:=by rw[dm hi];rfl
 rw[eg];simp only[rM,bV hi,aj,aU hi,ai,QH _ zs o1 o2 h3 hn,Di,ap,fu,aJ,ru,aX i];cases decide ((p.rules[i]).from_<=day)<;>cases (p.rules[i]).kB==0<;>cases decide (day<(p.rules[i]).kB)<;>cases Va p.rules[i] zs<;>refine⟨rfl,?_⟩<;>simp<;>omega
def XW(p:dO):Bool:=decide (0<=p.side/\p.side<=3)&&(decide (0<=p.base/\p.base<=4096)&&(decide (0<=p.num/\p.num<=4096)&&decide (1<=p.den/\p.den<=4096)))
theorem amH(p:dO):XW p=true↔(0<=p.side/\p.side<=3)/\(0<=p.base/\p.base<=4096)/\(0<=p.num/\p.num<=4096)/\(1<=p.den/\p.den<=4096):=by simp[XW]
theorem TA(a b c:Int):nZ a b c=some (decide (b<=a/\a<=c)):=by
 unfold nZ;by_cases h1:b<=a;have d:decide (b<=a)=true:=by simpa using h1
 rw[d,aj];congr 1;rw[eH];simp[h1];have d:decide (b<=a)=false:=by simpa using h1
 rw[d,au];congr 1;rw[eH];simp[h1]
theorem XY(p:dO):AA p=some (XW p):=by unfold AA XW;simp only[TA,ai,Di];generalize decide (0<=p.side/\p.side<=3)=a;generalize decide (0<=p.base/\p.base<=4096)=b;generalize decide (0<=p.num/\p.num<=4096)=c;cases a<;>cases b<;>cases c<;>rfl
theorem Bz{l:List dO}{φ:(dO×Unit)->Option Bool}(p:dO->Bool)(h:∀x∈l,φ (x,())=some (p x))(hl:l.length<1099511627776)(hn:l.length<n):kQ n l φ=some (l.any p):=by
 unfold kQ;have e:rW n l φ=wK n l φ:=by kernel_rfl
 rw[e,fF p h hl hn,ai,pE]
def EZ(b:ax)(l:List dO):Bool:=fc b&&!(l.any λp=>!XW p)
theorem XZ(b:ax) l (hl:l.length<=1000) (hn:2000<=n):AB n b l=some (EZ b l):=by unfold AB EZ;rw[jF,Bz (λ p=>!XW p) (λ p _=>by show uq p=_;unfold uq;rw[XY];rfl) (by omega) (by omega)];simp only[ai,Di];cases fc b<;>rfl
theorem ahI{a n:Int}(hn:0<n):(if Int.tmod a n<0 then Int.tdiv a n -1 else Int.tdiv a n)=a/n:=by
 have h1:=Int.mul_ediv_add_emod a n;have h2:=Int.emod_nonneg a (by omega:n≠0);have h3:=Int.emod_lt_of_pos a hn;rcases Int.le_total 0 a with h |h;have e1:Int.tmod a n=a%n:=Int.tmod_eq_emod_of_nonneg h;have e2:Int.tdiv a n=a/n:=Int.tdiv_eq_ediv_of_nonneg h;rw[e1,e2,aR (by omega)];obtain⟨b,rfl⟩:∃b,a= -b:=⟨-a,by omega⟩;have hb:0<=b:=by omega
 have e1:Int.tmod (-b) n= -(b%n):=by rw[Int.neg_tmod,Int.tmod_eq_emod_of_nonneg hb]
 have e2:Int.tdiv (-b) n= -(b/n):=by rw[Int.neg_tdiv,Int.tdiv_eq_ediv_of_nonneg hb]
 have g1:=Int.mul_ediv_add_emod b n;have g2:=Int.emod_nonneg b (by omega:n≠0);have g3:=Int.emod_lt_of_pos b hn;rw[e1,e2];by_cases hm:b%n=0;rw[aR (by omega)];have:(-b)/n= -(b/n):=by refine(Int.ediv_eq_iff_of_pos hn).2 ?_;constructor;rw[Int.neg_mul,Int.mul_comm (b/n)];omega;rw[Int.neg_mul,Int.mul_comm (b/n)];omega
 omega;rw[aS (by omega)];have:(-b)/n= -(b/n) -1:=by refine(Int.ediv_eq_iff_of_pos hn).2 ?_;constructor;rw[Int.sub_mul,Int.neg_mul,Int.mul_comm (b/n)];omega;rw[Int.sub_mul,Int.neg_mul,Int.mul_comm (b/n)];omega
 omega
theorem OJ{a n:Int}(hn:0<n)(ha: -4611686018427387904<=a/\a<=4611686018427387904):uw a n=some (a/n):=by
 have nz:(n !=0)=true:=by simp;omega
 have hb: -4611686018427387904<=a/n/\a/n<=4611686018427387904:=by
  constructor;rw[Int.le_ediv_iff_mul_le hn];have: -4611686018427387904*n<= -4611686018427387904:=by omega
  omega;rcases Int.le_total 0 a with h |h;have:=Int.ediv_le_self n h;omega;have:a/n<=0:=by have:=(Int.ediv_lt_iff_lt_mul (a:=a) (b:=1) hn).2 (by omega);omega
  omega
 have hf:=ahI (a:=a) hn;have ht: -4611686018427387904<=Int.tdiv a n/\Int.tdiv a n<=4611686018427387905:=by split at hf<;>omega
 unfold uw;simp[nz];rw[dw (x:=Int.tdiv a n),dw (x:=Int.tdiv a n -1),<- hf];by_cases h:Int.tmod a n<0;have d:decide (Int.tmod a n<0)=true:=by simpa using h
 rw[d,aS h];rfl;have d:decide (Int.tmod a n<0)=false:=by simpa using h
 rw[d,aR h];rfl
def X0(b:ax)(side x y:Int):Int:=if side=0 then x -b.x0 else if side=1 then b.x1 -1 -x else if side=2 then y -b.y0 else b.y1 -1 -y
def aqf(b:ax)(p:dO)(x y:Int):Int:=p.base+p.num*X0 b p.side x y/p.den
def ZG(b:ax)(l:List dO)(x y:Int):Int:=l.foldl (λ h p=>min h (aqf b p x y)) 4096
abbrev InG(x y:Int):Prop:=(0<=x/\x<1048576)/\(0<=y/\y<1048576)
theorem aff{b:ax}(hb:fc b=true){x y:Int}(h:InG x y) side: -1048576<=X0 b side x y/\X0 b side x y<=1048576:=by simp at hb;obtain⟨h1,h2⟩:=h;unfold X0;split;omega;split;omega;split<;>omega
theorem akn{a d:Int}(ha:0<=a/\a<=4096)(hd: -1048576<=d/\d<=1048576): -4294967296<=a*d/\a*d<=4294967296:=by have h1:a*d<=a*1048576:=Int.mul_le_mul_of_nonneg_left hd.2 ha.1;have h2:a*(-1048576)<=a*d:=Int.mul_le_mul_of_nonneg_left hd.1 ha.1;omega
theorem ako{a n:Int}(hn:0<n)(ha: -4294967296<=a/\a<=4294967296): -4294967296<=a/n/\a/n<=4294967296:=by constructor;rw[Int.le_ediv_iff_mul_le hn];omega;rcases Int.le_total 0 a with h |h;have:=Int.ediv_le_self n h;omega;have:=(Int.ediv_lt_iff_lt_mul (a:=a) (b:=1) hn).2 (by omega);omega
theorem ac1{b:ax}{l:List dO}{x y:Int}(hb:fc b=true)(hp:∀p∈l,XW p=true)(h:InG x y)(hl:l.length<=1000)(hn:2000<=n):J3 n b l x y=some (ZG b l x y):=by
 unfold J3 xh;have hr:=hb;simp at hr;obtain⟨h1,h2⟩:=h;rw[dw (x:=x -b.x0),dw (x:=b.x1 -1),dw (x:=b.x1 -1 -x),dw (x:=y -b.y0),dw (x:=b.y1 -1),dw (x:=b.y1 -1 -y)];simp;have:=fV (l:=l) (step:=xS b l x y ⟨x -b.x0,b.x1 -1 -x,y -b.y0,b.y1 -1 -y⟩) (λ i s=>(s,(i:Nat))) (λ p s=>min s (aqf b p x y)) (λ s=>s) (λ i hi s=>?_) (λ s=>by simp[xS]) n (by omega) 4096;rw[ip]at this;rw[this];rfl;obtain⟨s1,s2,s3,s4⟩:=(amH _).1 (hp _ (getElem_mem hi));have ib:cN (l[i]).side 4=true:=by simp[cN];omega
 have g:bj ([x -b.x0,b.x1 -1 -x,y -b.y0,b.y1 -1 -y]:List Int) (l[i]).side=some (X0 b (l[i]).side x y):=by
  have hs:(l[i]).side=0\/(l[i]).side=1\/(l[i]).side=2\/(l[i]).side=3:=by omega
  rcases hs with e |e |e |e<;>rw[e]<;>simp[bj,X0]
 have db:=aff hb ⟨h1,h2⟩ (l[i]).side;have mb:=akn s3 db;have dv:=ako (n:=(l[i]).den) (by omega) mb;simp only[xS,bV hi,aj,aU hi,ai,ib,g];rw[dw (x:=(l[i]).num*X0 b (l[i]).side x y),OJ (by omega) (by omega)];simp only[ai];rw[dw (x:=(l[i]).base+_),aP (by omega)];rfl
theorem afg(b:ax) l:EZ b l=true↔fc b=true/\∀p∈l,XW p=true:=by unfold EZ;rw[aY,Bool.not_eq_true',List.any_eq_false];simp
def Hj(x:gm):Bool:=decide (x.z0<0) || (decide (x.z0>=x.z1) || (decide (x.z1>4096) || (decide (x.area=[]) || !cV x.area)))
def A1(p:Option gm×gm):Bool:=Hj p.2 || p.1.any λq=>decide (q.z1>p.2.z0) || (q.z1==p.2.z0&&decide (q.area=p.2.area))
def BA(s:List gm):List (Option gm×gm):=(none::s.map some).zip s
def E5(s:List gm):Bool:=decide (s.length<=80)&&!((BA s).any A1)
theorem qb s:(BA s).length=s.length:=by simp[BA]
theorem E8{s:List gm}{i:Nat}(h:i<(BA s).length):(BA s)[i]=(if h0:i=0 then none else some (s[i -1]'(by rw[qb]at h;omega)),s[i]'(by rw[qb]at h;exact h)):=by
 simp[BA];cases i with
 |zero |succ i=>simp
theorem SH{s:List gm}(ha:∀x∈s,x.area.length<=900)(hn:1000<=n):IC n s=some (E5 s):=by
 unfold IC E5;by_cases h80:s.length<=80;have d:decide ((s.length:Int)>80)=false:=by simp;omega
 have d2:decide (s.length<=80)=true:=by simpa using h80
 have z:∀l:List ax,(((l.length:Int))==0)=decide (l=[]):=λl=>by cases l<;>simp<;>omega
 have:=kZ (l:=BA s) (step:=AJ n s) (λ i=>(i:Nat)) A1 () (λ _=>false) (λ i hi=>?_) ?_ n (by rw[qb];omega);rw[ip]at this;rw[d,d2,this,<- QC];cases mV A1 (BA s)<;>rfl;rw[E8];rw[qb]at hi;have hi':decide ((i:Int)<s.length)=true:=by simpa using hi
 have h1:=ha _ (getElem_mem hi);simp only[AJ,hi',aj,aU hi,ai,z,jf (n:=n) (l:=s[i].area) (by omega) (by omega) hn,A1];rw[aP (by omega)];have b:((bif decide (s[i].z0<0)then some true else bif decide (s[i].z0>=s[i].z1)then some true else bif decide (s[i].z1>4096)then some true else bif decide (s[i].area=[])then some true else some (!cV s[i].area)):Option Bool)=some (Hj s[i]):=by unfold Hj;cases decide (s[i].z0<0)<;>cases decide (s[i].z0>=s[i].z1)<;>cases decide (s[i].z1>4096)<;>cases decide (s[i].area=[])<;>rfl
 rw[b];simp;cases Hj s[i]with
 |true=>simp
 |false=>
  by_cases h0:i=0;subst h0;have:(((0:Nat))==0)=true:=rfl;simp;have e0:((i:Int)==0)=false:=by simp;omega
  have w:i64.wrap (i -1)=(i -1:Nat):=nu (by omega) (by omega);have h2:=ha _ (getElem_mem (show i -1<s.length by omega));simp[e0,w,aU (show i -1<s.length by omega),ahy (n:=n) (a:=s[i -1].area) (b:=s[i].area) (by omega) (by omega),h0];cases decide (s[i -1].z1>s[i].z0)with
  |true=>simp
  |false=>
   cases s[i -1].z1==s[i].z0 with
   |false=>simp
   |true=>cases decide (s[i -1].area=s[i].area)<;>simp
 rw[qb];simp[AJ];have d:decide ((s.length:Int)>80)=true:=by simp;omega
 have d2:decide (s.length<=80)=false:=by simpa using h80
 rw[d,d2];rfl
structure amI(x:gm):Prop where
 lo:0<=x.z0
 lt:x.z0<x.z1
 hi:x.z1<=4096
 ne:x.area≠[]
 rt:cV x.area=true
def aqg(s:List gm):Prop:=∀i (h:i+1<s.length),s[i].z1<=s[i+1].z0/\¬(s[i].z1=s[i+1].z0/\s[i].area=s[i+1].area)
theorem afi(x:gm):Hj x=false↔amI x:=by unfold Hj;simp;constructor;rintro⟨h1,h2,h3,h4,h5⟩;exact⟨by omega,by omega,by omega,h4,h5⟩;rintro⟨h1,h2,h3,h4,h5⟩;exact⟨by omega,by omega,by omega,h4,h5⟩
theorem X4 s:E5 s=true↔s.length<=80/\(∀ x∈s,amI x)/\aqg s:=by
 unfold E5;rw[aY,bD,Bool.not_eq_true',List.any_eq_false];refine and_congr_right λ_=>?_;constructor;intro h;have key:∀i (hi:i<s.length),A1 ((BA s)[i]'(by rw[qb];exact hi))=false:=λi hi=>by have:=h _ (getElem_mem (show i<(BA s).length by rw[qb];exact hi));simpa using this
 refine⟨λ x hx=>?_,λi hi=>?_⟩;obtain⟨i,hi,rfl⟩:=mem_iff_getElem.1 hx;have:=key i hi;rw[E8]at this;unfold A1 at this;rw[Bool.or_eq_false_iff]at this;exact(afi _).1 this.1;have:=key (i+1) hi;rw[E8]at this;unfold A1 at this;rw[Bool.or_eq_false_iff]at this;have h2:=this.2;simp only[Nat.succ_ne_zero,dif_neg,not_false_eq_true,Option.any_some,Nat.add_sub_cancel,Bool.or_eq_false_iff,fH,Bool.and_eq_false_iff,beq_eq_false_iff_ne]at h2;refine⟨by omega,λ⟨e1,e2⟩=>?_⟩;rcases h2.2 with h3 |h3;exact h3 e1;exact h3 e2;rintro⟨h1,h2⟩ p hp;obtain⟨i,hi,rfl⟩:=mem_iff_getElem.1 hp;rw[E8];rw[qb]at hi;unfold A1;have hb:=(afi _).2 (h1 _ (getElem_mem hi));by_cases h0:i=0;simp[h0]at hb ⊢;exact hb;obtain⟨j,rfl⟩:∃j,i=j+1:=⟨i -1,by omega⟩;have⟨n1,n2⟩:=h2 j hi;simp only[Nat.succ_ne_zero,dif_neg,not_false_eq_true,Option.any_some,Nat.add_sub_cancel];rw[hb];simp only[Bool.false_or,Bool.or_eq_true,bD,aY,beq_iff_eq];rintro (h |h);omega;exact n2 h
theorem sN{l:List gm}{φ:(gm×Unit)->Option Bool}(p:gm->Bool)(h:∀x∈l,φ (x,())=some (p x))(hl:l.length<1099511627776)(hn:l.length<n):jd n l φ=some (l.any p):=by
 unfold jd uy;have:=kZ (l:=l) (step:=mh l φ) (λ i=>(i:Nat)) p () (λ i=>(i:Nat)) (λ i hi=>?_) (by simp[mh]) n hn;rw[ip]at this;rw[this,<- QC];cases mV p l with
 |none=>rfl
 |some i=>simp<;>omega
 have hi':decide ((i:Int)<l.length)=true:=by simpa using hi
 simp only[mh,hi',aj,aU hi,ai,h _ (getElem_mem hi)];rw[aP (by omega)];cases p l[i]<;>rfl
def PQ(s:List gm)(lot:Int)(e:lg):Bool:=e.lot==lot&&(cV e.area&&s.any λc=>decide (c.z1>e.top)&&N2 c.area e.area)
def Nm(l:List lg)(lot:Int)(s:List gm):Bool:=E5 s&&!(l.any (PQ s lot))
theorem ZH{l:List lg}{lot:Int}{s:List gm}(hl:l.length<=900)(he:∀e∈l,e.area.length<=900)(ha:∀x∈s,x.area.length<=900)(hn:1000<=n):EN n l lot s=some (Nm l lot s):=by
 unfold EN Nm;rw[SH ha hn];simp;cases hr:E5 s with
 |false=>rfl
 |true=>
 have l80:=((X4 s).1 hr).1;have:=kZ (l:=l) (step:=wz n l lot s) (λ i=>(i:Nat)) (PQ s lot) () (λ _=>false) (λ i hi=>?_) (by simp[wz]) n (by omega);rw[ip]at this;simp;rw[this,<- QC];cases mV (PQ s lot) l<;>rfl;have hi':decide ((i:Int)<l.length)=true:=by simpa using hi
 have h1:=he _ (getElem_mem hi);have cf:=sN (n:=n) (l:=s) (φ:=λy:gm×Unit=>q9 n y.1 l[i]) (λ c=>decide (c.z1>l[i].top)&&N2 c.area l[i].area) (λ c hc=>by have:=ha c hc;show q9 n c l[i]=_;unfold q9;rw[ahx (by omega) (by omega) (by omega) (by omega)];cases decide (c.z1>l[i].top)<;>rfl) (by omega) (by omega);simp only[wz,hi',aj,aU hi,ai,jf (n:=n) (l:=l[i].area) (by omega) (by omega) hn,cf];rw[aP (by omega)];unfold PQ;cases h2:l[i].lot==lot with
 |false=>
  have:(l[i].lot !=lot)=true:=by simp[bne,h2]
  simp[this]
 |true=>
  have:(l[i].lot !=lot)=false:=by simp[bne,h2]
  simp[this];cases cV l[i].area with
  |false=>simp
  |true=>cases s.any λc=>decide (c.z1>l[i].top)&&N2 c.area l[i].area<;>simp
theorem afk(r:ax):fc r=true↔(0<=r.x0/\r.x0<r.x1/\r.x1<=1048576)/\(0<=r.y0/\r.y0<r.y1/\r.y1<=1048576):=by simp;omega
theorem Ki{b:ax}{l:List dO}(r:ax) x (hb:fc b=true) (hp:∀p∈l,XW p=true) (hr:fc r=true) (hx:0<=x/\x<1048576) (hl:l.length<=1000) (hn:2000<=n) v:
 iter (oM n b l r x) n (v,0)=some (min (min v (ZG b l x r.y0)) (ZG b l x (r.y1 -1))):=by
 have ho:=(afk r).1 hr;have w:i64.wrap (r.y1 -1)=r.y1 -1:=dw (by omega) (by omega);have:=fV (l:=[r.y0,r.y1 -1]) (step:=oM n b l r x) (λ i s=>(s,(i:Nat))) (λ y m=>min m (ZG b l x y)) (λ s=>s) (λ i hi s=>?_) (λ s=>by simp[oM]) n (by simp;omega) v;rw[ip]at this;exact this;have h2:i<2:=by simpa using hi
 have yb:0<=([r.y0,r.y1 -1]:List Int)[i]/\([r.y0,r.y1 -1]:List Int)[i] <1048576:=by rcases i with _ |_ |i;simp;omega;simp;omega;omega
 simp only[oM,bV h2,aj,bA h2,w,bH hi,ai,ac1 hb hp ⟨hx,yb⟩ hl hn,aX i]
def apB(b:ax)(l:List dO)(v:Int)(r:ax):Int:=min (min (min (min v (ZG b l r.x0 r.y0)) (ZG b l r.x0 (r.y1 -1))) (ZG b l (r.x1 -1) r.y0)) (ZG b l (r.x1 -1) (r.y1 -1))
theorem Kj{b:ax}{l:List dO}(r:ax)(hb:fc b=true)(hp:∀p∈l,XW p=true)(hr:fc r=true)(hl:l.length<=1000)(hn:2000<=n) v:
 iter (oN n b l r) n (v,0)=some (apB b l v r):=by
 have ho:=(afk r).1 hr;have w:i64.wrap (r.x1 -1)=r.x1 -1:=dw (by omega) (by omega);have:=fV (l:=[r.x0,r.x1 -1]) (step:=oN n b l r) (λ i s=>(s,(i:Nat))) (λ x m=>min (min m (ZG b l x r.y0)) (ZG b l x (r.y1 -1))) (λ s=>s) (λ i hi s=>?_) (λ s=>by simp[oN]) n (by simp;omega) v;rw[ip]at this;exact this;have h2:i<2:=by simpa using hi
 have xb:0<=([r.x0,r.x1 -1]:List Int)[i]/\([r.x0,r.x1 -1]:List Int)[i] <1048576:=by rcases i with _ |_ |i;simp;omega;simp;omega;omega
 simp only[oN,bV h2,aj,bA h2,w,bH hi,ai,Ki r _ hb hp hr xb hl hn,aX i]
def PP(b:ax)(l:List dO)(a:List ax):Int:=a.foldl (apB b l) 4096
theorem TB{b:ax}{l:List dO}{a:List ax}(hb:fc b=true)(hp:∀p∈l,XW p=true)(ha:∀r∈a,fc r=true)(hal:a.length<=1000)(hl:l.length<=1000)(hn:2000<=n):xU n b l a=some (PP b l a):=by unfold xU;have:=fV (l:=a) (step:=rO n b l a) (λ i s=>(s,(i:Nat))) (λ r m=>apB b l m r) (λ s=>s) (λ i hi s=>?_) (λ s=>by simp[rO]) n (by omega) 4096;rw[ip]at this;rw[this];rfl;simp only[rO,bV hi,aj,aU hi,ai,Kj a[i] hb hp (ha _ (getElem_mem hi)) hl hn,aX i]
theorem aor(r:ax):fc r=true↔(0<=r.x0/\r.x0<r.x1/\r.x1<=1048576)/\(0<=r.y0/\r.y0<r.y1/\r.y1<=1048576):=by simp;omega
abbrev A0(t:fw):Prop:=t.area.length<=900/\t.from_.length*8<=140737488355328
theorem ahJ{t:fw}(h:A0 t):C8 t=some t:=by unfold C8;have h2:=h.2;rw[Df (by omega),ai,show xJ t.from_=some t.from_ from Aj (b:=8) (by omega) (by simp[maxLen];omega),ai];simp
theorem abw{land:List fw}{id:Int}(h:∀t∈land,A0 t)(hl:land.length<1099511627776)(hn:land.length<n):pG n land id=some (cZ land id):=by
 unfold pG;have:=kZ (l:=land) (step:=rV land id) (λ i=>i) (λ t=>t.id==id) () (λ i=>(land.getD i Nx,true)) (λ i hi=>?_) ?_ n hn;rw[ip]at this;rw[this];unfold cZ;rcases LZ (λ t:fw=>t.id==id) land with ⟨i,hi,h1,h2⟩ |⟨h1,h2⟩;rw[h1,h2];simp[hi];rw[h1,h2];rfl;simp only[rV,bV hi,aj,aU hi,ai,ahJ (h _ (getElem_mem hi))];cases land[i].id==id with
 |true=>simp[hi]
 |false=>simp only[au];rw[aP (by omega)]
 simp[rV]
theorem QJ{land:List fw}(h:∀t∈land,A0 t) id:A0 (cZ land id).1:=by unfold cZ;split;rename_i t ht;exact h t (List.mem_of_find?_eq_some ht);simp[A0,Nx]
structure aqW(t:dX):Prop where
 rules:t.aq.length<=20
 T1:∀r∈t.aq,ahH r
 zones:t.ct.length<=20
 land:t.land.length<=20
 lots:∀l∈t.land,A0 l
 cE:t.cE.length<=5
 aq1:∀e∈t.cE,e.area.length<=10
theorem SK{α:Type}(p:α->Bool):∀l:List α,((List.range l.length).filter λi=>(l[i]?).any p).filterMap (λ i=>l[i]?)=l.filter p
 |[]=>rfl
 |a::l=>by
  have ih:=SK p l;rw[fq,List.range_succ_eq_map,List.filter_cons,List.filter_cons];have e:(List.filter (λ i=>((a::l)[i]?).any p) (List.map Nat.succ (List.range l.length))).filterMap (λ i=>(a::l)[i]?)=l.filter p:=by rw[List.filter_map,List.filterMap_map];exact ih
  cases hp:p a with
  |true |false=>simp[hp];simpa using e
def HG(a r:ax):ax:=⟨min a.x0 r.x0,min a.y0 r.y0,max a.x1 r.x1,max a.y1 r.y1⟩
def ajf:List ax->ax
 |[]=>⟨0,0,0,0⟩
 |r::l=>l.foldl HG r
def Vb(a:List ax):ax×Bool:=bif decide (a≠[])&&cV a then(ajf a,true)else(⟨0,0,0,0⟩,false)
theorem afm{a:List ax}(ha:a≠[])(hv:∀r∈a,fc r=true)(hl:a.length<=900)(hn:2000<=n):Og n a=some (ajf a,true):=by
 unfold Og;have:=fV (l:=a.zip (List.range a.length)) (step:=Az a) (λ i (s:Bool×Int×Int×Int×Int)=>(s.1,(i:Nat),s.2)) (λ p s=>bif !s.1 then(true,p.1.x0,p.1.y0,p.1.x1,p.1.y1)else(s.1,min s.2.1 p.1.x0,min s.2.2.1 p.1.y0,max s.2.2.2.1 p.1.x1,max s.2.2.2.2 p.1.y1)) (λ s=>s) (λ i hi s=>?_) (λ s=>?_) n (by simp;omega) (false,0,0,0,0);rw[ip]at this;simp only at this;rw[this];cases a with
 |nil=>exact absurd rfl ha
 |cons r l=>
  have gen:∀(l:List ax)(k:List Nat)(s:ax),l.length<=k.length->(l.zip k).foldl (λ (s:Bool×Int×Int×Int×Int) p=>bif !s.1 then(true,p.1.x0,p.1.y0,p.1.x1,p.1.y1)else(s.1,min s.2.1 p.1.x0,min s.2.2.1 p.1.y0,max s.2.2.2.1 p.1.x1,max s.2.2.2.2 p.1.y1)) (true,s.x0,s.y0,s.x1,s.y1)=(true,(l.foldl HG s).x0,(l.foldl HG s).y0,(l.foldl HG s).x1,(l.foldl HG s).y1):=by
   intro l
   induction l with
   |nil=>intro k s _;rfl
   |cons r l ih=>
    intro k s hk;cases k with
    |nil=>simp at hk
    |cons j k=>
     rw[List.zip_cons_cons,foldl_cons,foldl_cons];exact ih k (HG s r) (by simpa using hk)
  rw[fq,List.range_succ_eq_map,List.zip_cons_cons,foldl_cons];simp only[Bool.not_false,aj];rw[gen l _ r (by simp)];rfl
 have hi':i<a.length:=by simpa using hi
 obtain⟨s1,s2,s3,s4,s5⟩:=s;have ok:=hv _ (getElem_mem hi');simp only[Az,bV hi',aj,aU hi',ai,jF,ok,Bool.not_true,au,Di,List.getElem_zip,aX i];obtain⟨s1,s2,s3,s4,s5⟩:=s;have:(a.zip (List.range a.length)).length=a.length:=by simp
 simp[Az]
theorem ac2 a (hl:a.length<=900) (hn:2000<=n):J2 n a=some (Vb a):=by
 unfold J2 Vb;cases a with
 |nil=>rfl
 |cons r l=>
  have e:((((r::l).length:Nat):Int)==0)=false:=by simp;omega
  have e2:decide (r::l≠[])=true:=by simp
  rw[jf (by omega) (by omega) (by omega),e,e2];simp;cases hr:cV (r::l)with
  |false=>rfl
  |true=>
   simp;rw[afm (by simp) (uH hr).1 hl hn];rfl
structure aqY(X Y:List Int)(es:List lg):Prop where
 ok:∀e∈es,cV e.area=true
 x0:∀e∈es,∀c∈e.area,c.x0∈X
 x1:∀e∈es,∀c∈e.area,c.x1∈X
 y1:∀e∈es,∀c∈e.area,c.y1∈Y
 len:∀e∈es,e.area.length<=200
 size:X.length*Y.length<=200000
theorem J7{α W O:Type}{l:List α}{step:Int->Option (Int⊕(W⊕O))}(p:α->Bool)(w:W)(o:O)
 (h:∀i (hi:i<l.length),step i=some (bif p l[i]then .inr (.inr o)else .inl (i+1:Nat)))
 (hend:step l.length=some (.inr (.inl w))) (n:Nat) (hn:l.length<n):iter step n 0=some (bif l.any p then .inr o else .inl w):=by have:=kZ (l:=l) (step:=step) (λ i=>(i:Nat)) p w (λ _=>o) h hend n hn;rw[ip]at this;rw[this,<- jO];cases mV p l<;>rfl
def PM(t:dX):Bool:=
 (decide (t.aq.length<=10)&&(decide (t.ct.length<=6)&&(decide (t.cC.length<=20)&&(decide (t.ci.length<=20)&&(decide (t.land.length<=5)&&(decide (t.cE.length<=5)&&decide (t.built.length<=6)))))))&&
 (!(t.aq.any λr=>decide (r.zones.length>5) || decide (r.except.length>5))&&(!(t.land.any λl=>decide (l.area.length>10))&&!(t.cE.any λe=>decide (e.area.length>10))))
theorem aqh{a b:Nat}:decide ((a:Int)>b)=!decide (a<=b):=by
 by_cases h:a<=b;have:¬(a>b):=by omega
 simp[h];have:a>b:=by omega
 simp[this,h]
theorem ahK(t:dX)(hn:2000<=n):U3 n t=some (PM t):=by
 unfold U3 PM;simp only[show (10:Int)=((10:Nat):Int)from rfl,show(6:Int)=((6:Nat):Int)from rfl,show(20:Int)=((20:Nat):Int)from rfl,show(5:Int)=((5:Nat):Int)from rfl,aqh,Di,ai];cases hA:(decide (t.aq.length<=10)&&(decide (t.ct.length<=6)&&(decide (t.cC.length<=20)&&(decide (t.ci.length<=20)&&(decide (t.land.length<=5)&&(decide (t.cE.length<=5)&&decide (t.built.length<=6)))))))with
 |false=>
  have e:(bif !decide (t.aq.length<=10)then true else bif !decide (t.ct.length<=6)then true else bif !decide (t.cC.length<=20)then true else bif !decide (t.ci.length<=20)then true else bif !decide (t.land.length<=5)then true else bif !decide (t.cE.length<=5)then true else !decide (t.built.length<=6))=true:=by revert hA;cases decide (t.aq.length<=10)<;>cases decide (t.ct.length<=6)<;>cases decide (t.cC.length<=20)<;>cases decide (t.ci.length<=20)<;>cases decide (t.land.length<=5)<;>cases decide (t.cE.length<=5)<;>cases decide (t.built.length<=6)<;>simp
  rw[e];rfl
 |true=>
  have e:(bif !decide (t.aq.length<=10)then true else bif !decide (t.ct.length<=6)then true else bif !decide (t.cC.length<=20)then true else bif !decide (t.ci.length<=20)then true else bif !decide (t.land.length<=5)then true else bif !decide (t.cE.length<=5)then true else !decide (t.built.length<=6))=false:=by revert hA;cases decide (t.aq.length<=10)<;>cases decide (t.ct.length<=6)<;>cases decide (t.cC.length<=20)<;>cases decide (t.ci.length<=20)<;>cases decide (t.land.length<=5)<;>cases decide (t.cE.length<=5)<;>cases decide (t.built.length<=6)<;>simp
  simp at hA;rw[e];simp;rw[J7 (l:=t.aq) (λ r=>decide (r.zones.length>5) || decide (r.except.length>5)) () false (λ i hi=>?_) (by simp[LP]) n (by omega)];cases (t.aq.any λr=>decide (r.zones.length>5) || decide (r.except.length>5))with
  |true=>rfl
  |false=>
   simp;rw[J7 (l:=t.land) (λ l=>decide (l.area.length>10)) () false (λ i hi=>?_) (by simp[LQ]) n (by omega)];cases (t.land.any λl=>decide (l.area.length>10))with
   |true=>rfl
   |false=>
    simp;rw[J7 (l:=t.cE) (λ e=>decide (e.area.length>10)) () false (λ i hi=>?_) (by simp[LU]) n (by omega)];cases (t.cE.any λe=>decide (e.area.length>10))<;>rfl;have d:decide ((((t.cE[i]).area.length:Nat):Int)>10)=decide ((t.cE[i]).area.length>10):=(by rw[eH,bD,bD];omega);simp only[LU,bV hi,aj,aU hi,ai,d,Option.map_some,Di,aX i]
   have d:decide ((((t.land[i]).area.length:Nat):Int)>10)=decide ((t.land[i]).area.length>10):=(by rw[eH,bD,bD];omega);simp only[LQ,bV hi,aj,aU hi,ai,d,Option.map_some,Di,aX i]
  have d1:decide ((((t.aq[i]).zones.length:Nat):Int)>5)=decide ((t.aq[i]).zones.length>5):=by rw[eH,bD,bD];omega
  have d2:decide ((((t.aq[i]).except.length:Nat):Int)>5)=decide ((t.aq[i]).except.length>5):=by rw[eH,bD,bD];omega
  simp only[LP,bV hi,aj,aU hi,ai,d1,d2,Option.map_some,Di,aX i];cases decide ((t.aq[i]).zones.length>5)<;>cases decide ((t.aq[i]).except.length>5)<;>rfl
theorem J8{V O:Type}{step:V->Option (V⊕O)}(f:Nat->V){s:V}(N:Nat)(o:O)(h0:s=f 0)
 (h1:∀i,i<N->step (f i)=some (.inl (f (i+1)))) (h2:step (f N)=some (.inr o)) (n:Nat) (hn:N<n):iter step n s=some o:=by rw[h0];exact iD f N o h1 h2 n hn
def tb(f:Nat->Nat->Bool):List Bool:=(List.range 144).map λi=>f (i/12) (i%12)
def upd(f:Nat->Nat->Bool)(a b:Nat)(v:Bool):Nat->Nat->Bool:=λx y=>if x=a/\y=b then v else f x y
inductive Tc(e:Nat->Nat->Bool):Nat->Nat->Prop
 |one {a b:Nat}:a<12->b<12->e a b=true->Tc e a b
 |trans {a b c:Nat}:Tc e a b->Tc e b c->Tc e a c
theorem Tc.lt{e:Nat->Nat->Bool}{a b:Nat}(h:Tc e a b):a<12/\b<12:=by
 induction h with
 |one h1 h2 _=>exact⟨h1,h2⟩
 |trans _ _ i1 i2=>exact⟨i1.1,i2.2⟩
def gX(v:aF):ax:=ax.mk v.bz v.cz v.bx v.cy
def okV(v:aF):Bool:=fc (gX v)&&(decide (0<=v.eR)&&(decide (v.eR<v.ej)&&(decide (v.ej<=4096)&&((decide (v.use=0) || decide (v.units=0))&&(decide (0<=v.use)&&(decide (v.use<6)&&(decide (0<=v.units)&&decide (v.units<=1048576))))))))
theorem uK(v:aF):fP v=some (okV v):=by
 unfold fP okV;rw[jF];have e1:decide (v.eR<0)=!decide (0<=v.eR):=by rw[<- decide_not,decide_eq_decide];omega
 have e2:decide (v.eR>=v.ej)=!decide (v.eR<v.ej):=by rw[<- decide_not,decide_eq_decide];omega
 have e3:decide (v.ej>4096)=!decide (v.ej<=4096):=by rw[<- decide_not,decide_eq_decide];omega
 have e4:(v.use !=0)=!decide (v.use=0):=by by_cases h:v.use=0<;>simp[h]
 have e5:(v.units !=0)=!decide (v.units=0):=by by_cases h:v.units=0<;>simp[h]
 rw[e1,e2,e3,e4,e5,show ax.mk v.bz v.cz v.bx v.cy=gX v from rfl];simp;generalize fc (gX v)=a1;generalize decide (0<=v.eR)=a2;generalize decide (v.eR<v.ej)=a3;generalize decide (v.ej<=4096)=a4;generalize decide (v.use=0)=a5;generalize decide (v.units=0)=a6;generalize decide (0<=v.use)=a7;generalize decide (v.use<6)=a8;generalize decide (0<=v.units)=a9;generalize decide (v.units<=1048576)=ky;cases a1<;>cases a2<;>cases a3<;>cases a4<;>cases a5<;>cases a6<;>cases a7<;>cases a8<;>cases a9<;>rfl
theorem X5{v:aF}(h:okV v=true):fc (gX v)=true:=by rw[okV,aY]at h;exact h.1
def kV(d:aM):List aF:=d.phases.flatMap (·.bk)
theorem eW{l:List kW}(h:∀p∈l,p.bk.length<=1000):(l.flatMap (·.bk)).length<=l.length*1000:=by
 induction l with
 |nil=>simp
 |cons p l ih=>
  have h1:=h p (by simp);have h2:=ih λq hq=>h q (by simp[hq]);simp only[List.flatMap_cons,fe,fq];omega
def TD(d:aM):Prop:=d.phases.length<=1000/\∀p∈d.phases,p.bk.length<=1000
theorem X6{d:aM}(h:TD d)(hn:1001<=n):oK n d 0 d.phases.length=some (kV d):=by
 obtain⟨h1,h2⟩:=h;unfold oK;have key:=J8 (step:=nT d 0 d.phases.length) (λ i=>(i,(d.phases.take i).flatMap (·.bk))) (s:=(0,[])) d.phases.length (kV d) rfl (λ i hi=>by
  have e2:decide (i>=0)=true:=by simp
  have hl:=eW (l:=d.phases.take i) λp hp=>h2 p (List.mem_of_mem_take hp);rw[length_take]at hl;have hv:=h2 _ (getElem_mem hi);generalize hL:(d.phases.take i).flatMap (·.bk)=L at hl;have hap:bK L.length L.length d.phases[i].bk.length d.phases[i].bk.length 72=true:=dx (by omega) (by simp[maxLen];omega);simp only[nT,bV hi,aj,aU hi,ai,e2,hap,fu,aJ,aX i];rw[iL hi,List.flatMap_append,hL];simp) (by simp[nT,kV]) n (by omega)
 have hz:az 0 ([]:List aF).length=true:=rfl;simp[key]
def Nd(v:aF):Int:=(lq v).getD 0
theorem X7(v:aF):lq v=some (Nd v):=by unfold Nd lq;rw[uK];cases v.extra<;>cases okV v<;>rfl
def QK(v:aF):Int:=(o6 v).getD 0
theorem afo(v:aF):o6 v=some (QK v):=by
 unfold QK o6;rw[uK,X7];cases h:okV v with
 |false=>rfl
 |true=>
  have e:=Dl (X5 h);unfold gX at e;simp[e]
def Hi(f:aF->Int)(l:List aF):Int:=l.foldl (λ s v=>i64.wrap (s+f v)) 0
def PJ(f:aF->Int)(l:List aF):Int:=l.foldl (λ s v=>max s (f v)) 0
theorem apC a1 a8 {a9:List aF} (hl:a9.length<=1000) (hn:1001<=n):∀a0 a2 a3 a4 a5 a6 a7,kM n a0 a1 a2 a3 a4 a5 a6 a7 a8 a9=some (Hi QK a9,a0,a1,a2,a3,a4,a5,a6,a7,a8,a9):=by have key:=fV (l:=a9) (step:=jP a9) (λ i s=>(s,i)) (λ v s=>i64.wrap (s+QK v)) (λ s=>s) (λ i hi s=>by simp only[jP,bV hi,aj,bA hi,bH hi,ai,afo,aX i]) (λ s=>by simp[jP]) n (by omega) 0;rw[ip]at key;unfold kM qK;simp only[key,ai,aJ,aj];exact λ_ _ _ _ _ _ _=>rfl
theorem apD a1 a8 {a9:List aF} (hl:a9.length<=1000) (hn:1001<=n):∀a0 a2 a3 a4 a5 a6 a7,kN n a0 a1 a2 a3 a4 a5 a6 a7 a8 a9=some (Hi (·.units) a9,a0,a1,a2,a3,a4,a5,a6,a7,a8,a9):=by have key:=fV (l:=a9) (step:=jS a9) (λ i s=>(s,i)) (λ v s=>i64.wrap (s+v.units)) (λ s=>s) (λ i hi s=>by simp only[jS,bV hi,aj,bA hi,bH hi,ai,pz,aX i]) (λ s=>by simp[jS]) n (by omega) 0;rw[ip]at key;unfold kN qL;simp only[key,ai,aJ,aj];exact λ_ _ _ _ _ _ _=>rfl
theorem amJ a1 a8 {a9:List aF} (hl:a9.length<=1000) (hn:1001<=n):∀a0 a2 a3 a4 a5 a6 a7,jQ n a0 a1 a2 a3 a4 a5 a6 a7 a8 a9=some (PJ Nd a9,a0,a1,a2,a3,a4,a5,a6,a7,a8,a9):=by have key:=fV (l:=a9) (step:=gT a9) (λ i s=>(s,i)) (λ v s=>max s (Nd v)) (λ s=>s) (λ i hi s=>by simp only[gT,bV hi,aj,bA hi,bH hi,ai,X7,aX i]) (λ s=>by simp[gT]) n (by omega) 0;rw[ip]at key;unfold jQ mM;simp only[key,ai,aJ,aj];exact λ_ _ _ _ _ _ _=>rfl
theorem amK a1 a8 {a9:List aF} (hl:a9.length<=1000) (hn:1001<=n):∀a0 a2 a3 a4 a5 a6 a7,jR n a0 a1 a2 a3 a4 a5 a6 a7 a8 a9=some (PJ (·.ej) a9,a0,a1,a2,a3,a4,a5,a6,a7,a8,a9):=by have key:=fV (l:=a9) (step:=gU a9) (λ i s=>(s,i)) (λ v s=>max s v.ej) (λ s=>s) (λ i hi s=>by simp only[gU,bV hi,aj,bA hi,bH hi,ai,nU,aX i]) (λ s=>by simp[gU]) n (by omega) 0;rw[ip]at key;unfold jR mO;simp only[key,ai,aJ,aj];exact λ_ _ _ _ _ _ _=>rfl
theorem akr(e:aZ)(a:JV){u:Int}(h0:0<=u)(h6:u<6):∃b,kG e a u=some b:=by
 obtain⟨k,rfl⟩:∃k:Nat,u=k:=⟨u.toNat,by omega⟩;have hk:k<6:=by omega
 unfold kG;rw[bA hk,aU (l:=[a.a0,a.a1,a.a2,a.a3,a.a4,a.a5]) hk];exact⟨_,rfl⟩
theorem E9{l:List aZ}{φ:(aZ×Unit)->Option Bool}(p:aZ->Bool)(h:∀x∈l,φ (x,())=some (p x))(hl:l.length<=9223372036854775807)(hn:l.length<n):iT n l φ=some (qW p l):=FN p h hl hn
theorem apE(p:bL){u:Int}(h0:0<=u)(h6:u<6)(ht:p.tables.length<n)(ht2:p.tables.length<=9223372036854775807)(hr:∀t∈p.tables,t.rows.length<n/\t.rows.length<=9223372036854775807):∃r,Ao n p u=some r:=by
 have key:∃o,iter (kH n p u) n 0=some o/\True:=by
  have step:∀i (hi:i<p.tables.length),kH n p u i=some (.inl (i+1:Nat))\/∃z,kH n p u i=some (.inr (.inr z)):=by
   intro i hi;obtain⟨r1,r2⟩:=hr _ (getElem_mem hi);simp only[kH,bV hi,aj,aU hi,ai,aX i];cases ByteArray.toList p.tables[i].name==ByteArray.toList ⟨#[116,114,97,102,102,105,99]⟩with
   |false=>exact Or.inl rfl
   |true=>
    right;simp;generalize JV.mk _ _ _ _ _ _=A;have hx:=E9 (n:=n) (l:=p.tables[i].rows) (φ:=λy1=>kG y1.1 A u) (λ e=>(kG e A u).getD false) (λ e _=>by have⟨b,hb⟩:=akr e A h0 h6;simp[hb]) r2 r1;rw[hx];simp[pE];cases hany:p.tables[i].rows.any λe=>(kG e A u).getD false with
    |false=>exact⟨_,rfl⟩
    |true=>
     have⟨j,hj,h1,_⟩:=Xc hany;rw[h1];simp only[aj,aU hj,ai];exact⟨_,rfl⟩
  have main:∀k i m,i+k=p.tables.length->k<m->∃o,iter (kH n p u) m i=some o/\True:=by
   intro k
   induction k with
   |zero=>
    intro i m hi hm;obtain⟨q,rfl⟩:∃q,m=q+1:=⟨m -1,by omega⟩;have:i=p.tables.length:=(by omega);subst this;exact⟨.inl (),fD (by simp[kH]),trivial⟩
   |succ k ih=>
    intro i m hi hm;obtain⟨q,rfl⟩:∃q,m=q+1:=⟨m -1,by omega⟩;rcases step i (by omega)with h |⟨z,h⟩;rw[jI h];exact ih (i+1) q (by omega) (by omega);exact⟨_,fD h,trivial⟩
  exact main p.tables.length 0 n (by omega) ht
 obtain⟨o,h1,_⟩:=key;unfold Ao;rw[h1];cases o with
 |inl w |inr r=>exact⟨_,rfl⟩
theorem ahL(p:bL){v:aF}(hv:okV v=true)(ht:p.tables.length<n)(ht2:p.tables.length<=9223372036854775807)(hr:∀t∈p.tables,t.rows.length<n/\t.rows.length<=9223372036854775807):∃r,jC n p v=some r:=by
 simp[okV]at hv;have⟨r,h1⟩:=apE (n:=n) p (u:=v.use) hv.2.2.2.2.2.1 hv.2.2.2.2.2.2.1 ht ht2 hr;unfold jC;rw[h1,afo];simp;have e100:(100 !=0)=true:=rfl;by_cases h:r>0;have e:(r !=0)=true:=by simp;omega
 have e2:decide (r>0)=true:=by simpa using h
 rw[e,e2];simp;cases decide (QK v>i64.wrap (Int.tdiv 109951162777600 r))<;>exact⟨_,rfl⟩;have e2:decide (r>0)=false:=by simpa using h
 rw[e2];exact⟨_,rfl⟩
def aoX(n:Nat)(ts:List bO)(v:aF):Int:=(jC n (bL.mk [] ts [] [] [] [] [] 0) v).getD 0
theorem apF a1 a8 {a9:List aF} (hl:a9.length<=1000) (hn:1001<=n) (hv:∀v∈a9,okV v=true) (ht:a1.length<n) (ht2:a1.length<=9223372036854775807) (hr:∀t∈a1,t.rows.length<n/\t.rows.length<=9223372036854775807):∀a0 a2 a3 a4 a5 a6 a7,jr n a0 a1 a2 a3 a4 a5 a6 a7 a8 a9=some (Hi (aoX n a1) a9,a0,a1,a2,a3,a4,a5,a6,a7,a8,a9):=by have key:=λa0 a2 a3 a4 a5 a6 a7=>eF (l:=a9) (step:=jU n a9) (λ i s=>(s,i,a0,a1,a2,a3,a4,a5,a6,a7,a8,a9)) (λ v s=>i64.wrap (s+(jC n (bL.mk [] a1 [] [] [] [] [] 0) v).getD 0)) (λ s=>(s,a0,a1,a2,a3,a4,a5,a6,a7,a8,a9)) (λ _ _=>True) (λ i hi s _=>⟨by obtain⟨r,h1⟩:=ahL (n:=n) (bL.mk [] a1 [] [] [] [] [] 0) (hv _ (getElem_mem hi)) ht ht2 hr;have h2:jC n (bL.mk a0 a1 a2 a3 a4 a5 a6 a7) a9[i]=some r:=h1;simp only[jU,bV hi,aj,bA hi,bH hi,ai,kI,h1,h2,aJ,aX i,Option.getD_some],trivial⟩) (λ s _=>by simp[jU]) n (by omega) 0 trivial;have key:=λa0 a2 a3 a4 a5 a6 a7=>(ip) ▸ key a0 a2 a3 a4 a5 a6 a7;unfold jr qM;simp only[key,ai,aJ,aj];exact λ_ _ _ _ _ _ _=>rfl
theorem amL{α β:Type}(l:List α)(f:α->β)(z:β){i:Nat}(hi:i<l.length):((l.take i).map f++List.replicate (l.length -i) z).set i (f l[i])=(l.take (i+1)).map f++List.replicate (l.length -(i+1)) z:=by
 have h1:((l.take i).map f).length=i:=by simp;omega
 rw[List.set_append_right _ _ (by omega),h1,Nat.sub_self,show l.length -i=(l.length -(i+1))+1 by omega,List.replicate_succ,List.set_cons_zero,iL hi,map_append,aQ];rfl
theorem amM{α β:Type}(l:List α)(f:α->β)(z:β){i:Nat}(hi:i<=l.length):((l.take i).map f++List.replicate (l.length -i) z).length=l.length:=by simp;omega
theorem amN{α β:Type}(l:List α)(f:α->β)(z:β){i:Nat}(hi:i<l.length):((l.take (i+1)).map f++List.replicate (l.length -(i+1)) z)[i]? =some (f l[i]):=by rw[List.getElem?_append_left (by simp;omega)];simp[hi]
theorem amO{l:List aF}(hl:l.length<=1000)(hn:1001<=n):iter (gq l) n (0,List.replicate l.length (ax.mk 0 0 0 0),[])=some (l.map gX,l.flatMap λv=>[v.bz,v.bx]):=by
 refine J8 (step:=gq l) (λ i=>(i,(l.take i).map gX++List.replicate (l.length -i) (ax.mk 0 0 0 0),(l.take i).flatMap λv=>[v.bz,v.bx])) l.length _ ?_ (λ i hi=>?_) ?_ n (by omega);simp;have h1:=amM l gX (ax.mk 0 0 0 0) (Nat.le_of_lt hi);have h2:=amL l gX (ax.mk 0 0 0 0) hi;have h3:=amN l gX (ax.mk 0 0 0 0) hi;have h4:((l.take i).flatMap λv=>[v.bz,v.bx]).length=2*i:=by
  have:∀m:List aF,(m.flatMap λv=>[v.bz,v.bx]).length=2*m.length:=by
   intro m;induction m with
   |nil=>rfl
   |cons a m ih=>simp[ih];omega
  rw[this,length_take];omega
 generalize (l.take i).map gX++List.replicate (l.length -i) (ax.mk 0 0 0 0)=B at h1 h2;have e0:(((0:Nat):Int)+i).toNat=i:=by omega
 have et:(l.length:Int).toNat=l.length:=by omega
 have hb:ax.mk l[i].bz l[i].cz l[i].bx l[i].cy=gX l[i]:=rfl;have hiB:i<B.length:=by omega
 rw[<- h2]at h3;have g3:bj (B.set i (gX l[i])) ((0:Nat)+i)=some (gX l[i]):=by rw[Eu];exact h3
 have hs:sub ([(gX l[i]).x0,(gX l[i]).x1]:List Int) 0 2=[(gX l[i]).x0,(gX l[i]).x1]:=rfl;have hap:bK (2*i) (2*i) 2 2 8=true:=dx (by omega) (by simp[maxLen];omega);have hl2:([(gX l[i]).x0,(gX l[i]).x1]:List Int).length=2:=rfl;simp only[gq,bV hi,aj,bA hi,bH hi,ai,et,bH hiB,e0,hb,g3,hs,hl2,h4,hap,fu,aJ,aX i];rw[<- h2,iL hi,List.flatMap_append];rfl;simp only[gq,Ow,au,aJ,aj,List.take_length];simp
def cst(x w:Int)(s:Int×Int)(r:ax):Int×Int:=
 bif decide (r.x0<=x)&&(decide (x<r.x1)&&decide (r.y1>s.2))then(i64.wrap (s.1+i64.wrap (i64.wrap w*i64.wrap (r.y1 -max s.2 r.y0))),r.y1)else s
def PH(R:List ax)(X:List Int)(n:Int)(k:Nat):Int:=(R.foldl (cst (X.getD k 0) (X.getD (k+1) 0 -X.getD k 0)) (n,0)).1
def ahM(R:List ax)(X:List Int):Int:=(List.range (X.length -1)).foldl (PH R X) 0
def Tb(l:List aF):Int:=ahM (jk xj (l.map gX)) (ko oX (l.flatMap λv=>[v.bz,v.bx]))
theorem amP{l:List aF}{R:List ax}{X:List Int} w2 (hR:R.length=l.length) (hX:X.length=w2.length) (hl:l.length<=1000) (hn:1001<=n) {k:Nat} (hk:k+1<w2.length) (hw:w2.length<=10000) s:iter (gu l w2 R X k) n (s,0,0)=some (PH R X s k):=by
 have et:((l.length:Int).toNat)=l.length:=by omega
 have ew:i64.wrap (k+1)=(k+1:Nat):=aP (by omega);have g1:X.getD k 0=X[k]'(by omega):=by simp[show k<X.length by omega]
 have g2:X.getD (k+1) 0=X[k+1]'(by omega):=by simp[show k+1<X.length by omega]
 unfold PH;rw[g1,g2];refine fV (l:=R) (step:=gu l w2 R X k) (λ i (s:Int×Int)=>(s.1,s.2,i)) (λ r s=>cst (X[k]'(by omega)) (X[k+1]'(by omega) -X[k]'(by omega)) s r) (λ s=>s.1) (λ i hi v=>?_) (λ v=>?_) n (by omega) (s,0);obtain⟨a,b⟩:=v;simp only[gu,et,bV (show i<l.length by omega),aj,bA (show i<l.length by omega),bH (show i<R.length by omega),ai,bA (show k<w2.length by omega),bH (show k<X.length by omega),ew,bA hk,bH (show k+1<X.length by omega),aX i,cst];cases decide ((R[i]'(by omega)).x0<=X[k]'(by omega))with
 |false=>rfl
 |true=>
  simp;cases decide (X[k]'(by omega)<(R[i]'(by omega)).x1)with
  |false=>rfl
  |true=>
   cases decide ((R[i]'(by omega)).y1>b)<;>rfl
 obtain⟨a,b⟩:=v;simp[gu,hR]
theorem amQ a1 a8 {a9:List aF} (hl:a9.length<=1000) (hn:10000<=n):∀a0 a2 a3 a4 a5 a6 a7,iJ n a0 a1 a2 a3 a4 a5 a6 a7 a8 a9=some (Tb a9,a0,a1,a2,a3,a4,a5,a6,a7,a8,a9):=by
 have et:((a9.length:Int).toNat)=a9.length:=by omega
 have mk:sQ (a9.length:Nat) 32=true:=ajb (by omega) (by simp[maxLen];omega);have d1:decide ((a9.length:Nat)<=(a9.length:Nat))=true:=by simp
 have d2:decide (0<=(a9.length:Nat))=true:=by simp
 have hz:az 0 ([]:List Int).length=true:=rfl;have hx:(a9.flatMap λv=>[v.bz,v.bx]).length<=2000:=by
  have:∀m:List aF,(m.flatMap λv=>[v.bz,v.bx]).length=2*m.length:=by
   intro m;induction m with
   |nil=>rfl
   |cons a m ih=>simp[ih];omega
  rw[this];omega
 unfold iJ;rw[et,amO hl (by omega)];unfold Tb;generalize (a9.flatMap λv=>[v.bz,v.bx])=W at hx;have srt:=Kh (n:=n) (l:=a9.map gX) (φ:=λy1=>iH y1.1 y1.2.1) (λ x y=>if x.y0<y.y0 then -1 else if y.y0<x.y0 then 1 else 0) (λ x y=>by show iH x y=_;unfold iH;rw[kK];rfl) (λ x y=>by unfold xj;rw[decide_eq_decide];constructor;intro h;split at h;assumption;split at h<;>omega;intro h;rw[aS h];decide) (by simp;omega) (by simp;omega);have hm:az a9.length (a9.map gX).length=true:=by simp
 have hR:(jk xj (a9.map gX)).length=a9.length:=by rw[Ew ajd];simp
 have hX:(ko oX W).length=W.length:=(Ez oX W).length_eq;simp[mk,srt,kL (show W.length<1099511627776 by omega) (show W.length<n by omega)];generalize jk xj (a9.map gX)=R at hR;generalize ko oX W=X at hX;have key:iter (gB n a9 W R X) n (0,0)=some (ahM R X):=by
  have eN:max 0 (i64.wrap ((W.length:Nat) -1))=(W.length -1:Nat):=by
   cases h:W.length with
   |zero=>rfl
   |succ k=>rw[nu (by omega) (by omega)];omega
  have hrl:(List.range (X.length -1)).length=W.length -1:=by rw[List.length_range];omega
  unfold ahM;refine fV (l:=List.range (X.length -1)) (step:=gB n a9 W R X) (λ i s=>(s,i)) (λ k s=>PH R X s k) (λ s=>s) (λ i hi s=>?_) (λ s=>?_) n (by omega) 0;have hi':i<W.length -1:=by omega
  simp only[gB,eN,bV hi',aj,amP (n:=n) (l:=a9) (R:=R) (X:=X) W hR hX hl (by omega) (k:=i) (by omega) (by omega) s,ai,aX i,List.getElem_range];simp[gB,eN,hrl]
 rw[key];exact λ_ _ _ _ _ _ _=>rfl
def M3(b:ax)(k:Int):ax:=⟨b.x0 -k,b.y0 -k,b.x1+k,b.y1+k⟩
def Fa(area:List ax)(b:ax)(k:Int):Bool:=fc (M3 b k)&&decide (area.foldl (λ s y=>XV (M3 b k) s y) 0=No (M3 b k))
theorem aks(b:ax) k a2 a3 a4 a5 a6 a7 a8 a9 {ky:List ax} tG (hb:fc b=true) (h0:0<=k) (h1:k<=1048576) (hl:ky.length<=1000) (hn:1001<=n):
 jT n b k a2 a3 a4 a5 a6 a7 a8 a9 ky tG=some (Fa ky b k,a2,a3,a4,a5,a6,a7,a8,a9,ky,tG):=by
 rw[aor]at hb;unfold jT Br Fa;rw[dw (x:=b.x0 -k),dw (x:=b.y0 -k),dw (x:=b.x1+k),dw (x:=b.y1+k),show ax.mk (b.x0 -k) (b.y0 -k) (b.x1+k) (b.y1+k)=M3 b k from rfl,jF];generalize M3 b k=g;simp;cases hg:fc g with
 |false=>simp
 |true=>
  have key:=fV (l:=ky) (step:=iE ky (g,true)) (λ i s=>(s,i)) (λ y s=>XV g s y) (λ s=>s) (λ i hi s=>by
   simp only[iE,bV hi,aj,aU hi,ai,zl,aX i,XV];cases h1:fc g with
   |false=>rfl
   |true=>
    cases h2:fc ky[i]with
    |false=>rfl
    |true=>
     cases h3:fc (FQ g ky[i])with
     |false=>rfl
     |true=>simp[Dl h3]) (λ s=>by simp[iE]) n (by omega) 0
  rw[ip]at key;simp[key,Dl hg];congr 2
def QL(p:Int->Bool):Nat->Int->Int->Int
 | 0,lo,_=>lo
 |k+1,lo,hi=>bif decide (lo<hi)then(bif p ((lo+hi+1)/2)then QL p k ((lo+hi+1)/2) hi else QL p k lo ((lo+hi+1)/2 -1))else lo
theorem ac4(p:Int->Bool):∀k lo hi,lo<=hi->lo<=QL p k lo hi/\QL p k lo hi<=hi
 | 0,lo,hi,h=>by simp[QL];omega
 |k+1,lo,hi,h=>by
  simp[QL];by_cases h1:lo<hi;have e:decide (lo<hi)=true:=by simpa using h1
  rw[e,aj];cases p ((lo+hi+1)/2)with
  |true=>have:=ac4 p k ((lo+hi+1)/2) hi (by omega);simp;omega
  |false=>have:=ac4 p k lo ((lo+hi+1)/2 -1) (by omega);simp;omega
  have e:decide (lo<hi)=false:=by simpa using h1
  rw[e,au];omega
theorem ahN{v:aF}(hv:fc (gX v)=true) a2 a3 a4 a5 a6 a7 a8 a9 {ky:List ax} tG (hl:ky.length<=1000) (hn:1001<=n):
 ∀(k:Nat) lo hi m,0<=lo->lo<=hi->hi<=1048576->hi -lo<2 ^ k->k<m->iter (dW n v) m (lo,hi,a2,a3,a4,a5,a6,a7,a8,a9,ky,tG)=some (QL (Fa ky (gX v)) k lo hi,a2,a3,a4,a5,a6,a7,a8,a9,ky,tG):=by
 intro k
 induction k with
 |zero=>
  intro lo hi m h0 h1 h2 h3 hm;obtain⟨q,rfl⟩:∃q,m=q+1:=⟨m -1,by omega⟩;have:lo=hi:=by simp at h3;omega
  subst this;refine fD ?_;have e:decide (lo<lo)=false:=by simp
  simp[dW,QL]
 |succ k ih=>
  intro lo hi m h0 h1 h2 h3 hm;obtain⟨q,rfl⟩:∃q,m=q+1:=⟨m -1,by omega⟩;have hp:(2:Int) ^ (k+1)=2*2 ^ k:=by rw[Int.pow_succ];omega
  rw[hp]at h3;by_cases hlt:lo<hi;have e:decide (lo<hi)=true:=by simpa using hlt
  have e2:((2:Nat) !=0)=true:=rfl;have em:i64.wrap (Int.tdiv (i64.wrap (i64.wrap (lo+hi)+1)) 2)=(lo+hi+1)/2:=by rw[dw (x:=lo+hi),dw (x:=lo+hi+1),Int.tdiv_eq_ediv_of_nonneg (by omega),dw (by omega) (by omega)]
  have hi2:=aks (n:=n) (gX v) ((lo+hi+1)/2) a2 a3 a4 a5 a6 a7 a8 a9 (ky:=ky) tG hv (by omega) (by omega) hl hn;unfold gX at hi2;cases hc:Fa ky (gX v) ((lo+hi+1)/2)with
  |true=>
   rw[jI (v':=((lo+hi+1)/2,hi,a2,a3,a4,a5,a6,a7,a8,a9,ky,tG)) (by unfold gX at hc;simp[dW,e,em,hi2,hc]),ih _ _ _ (by omega) (by omega) (by omega) (by omega) (by omega)];simp[QL,e,hc]
  |false=>
   rw[jI (v':=(lo,(lo+hi+1)/2 -1,a2,a3,a4,a5,a6,a7,a8,a9,ky,tG)) (by unfold gX at hc;simp[dW,e,em,hi2,hc,dw (x:=(lo+hi+1)/2 -1)]),ih _ _ _ (by omega) (by omega) (by omega) (by omega) (by omega)];simp[QL,e,hc]
  have e:decide (lo<hi)=false:=by simpa using hlt
  refine fD ?_;simp[dW,e,QL]
def Dm(area:List ax)(l:List aF):Int:=l.foldl (λ b v=>QL (Fa area (gX v)) 21 0 b) 1048576
theorem ahO a0 a1 a2 a3 a4 a5 a6 a7 {a8:List ax} {a9:List aF} (hv:∀v∈a9,okV v=true) (hl:a9.length<=1000) (h8:a8.length<=1000) (hn:1001<=n):jq n a0 a1 a2 a3 a4 a5 a6 a7 a8 a9=some (Dm a8 a9,a0,a1,a2,a3,a4,a5,a6,a7,a8,a9):=by have key:=eF (l:=a9) (step:=iq n a9) (λ i s=>(s,i,a0,a1,a2,a3,a4,a5,a6,a7,a8,a9)) (λ v s=>QL (Fa a8 (gX v)) 21 0 s) (λ s=>(s,a0,a1,a2,a3,a4,a5,a6,a7,a8,a9)) (λ _ s=>0<=s/\s<=1048576) (λ i hi s hs=>by have h1:=ahN (n:=n) (X5 (hv _ (getElem_mem hi))) a0 a1 a2 a3 a4 a5 a6 a7 (ky:=a8) a9 h8 hn 21 0 s n (by omega) hs.1 hs.2 (by have:2 ^ 21=2097152:=rfl;omega) (by omega);have h2:=ac4 (Fa a8 (gX a9[i])) 21 0 s hs.1;refine⟨?_,by omega,by omega⟩;simp only[iq,bV hi,aj,bA hi,bH hi,ai,aJ,h1,aX i]) (λ s _=>by simp[iq]) n (by omega) 1048576 (by omega);rw[ip]at key;unfold jq;simp[key];rfl
def fZ(d:aM):List aF:=((kV d).take 40).filter okV
theorem ac5(d:aM):∀v∈fZ d,okV v=true:=λv hv=>(List.mem_filter.1 hv).2
theorem ZI(d:aM):(fZ d).length<=40:=Nat.le_trans (length_filter_le _ _) (by rw[length_take];omega)
def qI(lot:fw):List ax:=bif cV lot.area then lot.area else []
theorem aqi{l:List aF} a0 a1 a2 a3 a4 a5 a6 a7 a8 (hl:l.length<=9223372036854775807) (hn:l.length<n):
 iter (qX l) n (0,a0,a1,a2,a3,a4,a5,a6,a7,a8,[])=some (a0,a1,a2,a3,a4,a5,a6,a7,a8,(l.take 40).filter okV):=by
 refine J8 (step:=qX l) (λ i=>(i,a0,a1,a2,a3,a4,a5,a6,a7,a8,((l.take i).take 40).filter okV)) l.length _ (by simp) (λ i hi=>?_) ?_ n hn;have hlen:(((l.take i).take 40).filter okV).length<=40:=Nat.le_trans (length_filter_le _ _) (by rw[length_take];omega);have e40:decide ((i:Int)<40)=decide (i<40):=by rw[decide_eq_decide];omega
 have hs:sub ([l[i]]:List aF) 0 1=[l[i]]:=rfl;have hN:((l.take (i+1)).take 40).filter okV=((l.take i).take 40).filter okV++(bif decide (i<40)&&okV l[i]then [l[i]]else []):=by
  by_cases h:i<40;have h1:(l.take i).take 40=l.take i:=take_of_length_le (by rw[length_take];omega);have h2:(l.take (i+1)).take 40=l.take (i+1):=take_of_length_le (by rw[length_take];omega);have h3:decide (i<40)=true:=by simpa using h
  rw[h1,h2,iL hi,List.filter_append,h3];cases h4:okV l[i]<;>simp[h4];have h3:decide (i<40)=false:=by simpa using h
  rw[List.take_take,List.take_take,h3,show min 40 (i+1)=40 by omega,show min 40 i=40 by omega];simp
 rw[hN];generalize ((l.take i).take 40).filter okV=L at hlen;have hap:bK L.length L.length 1 1 72=true:=dx (by omega) (by simp[maxLen];omega);simp only[qX,bV hi,aj,bA hi,bH hi,ai,e40,uK,aX i];cases decide (i<40)with
 |false=>simp
 |true=>
  simp;cases okV l[i]with
  |false=>simp
  |true=>simp[hs,hap]
 simp[qX]
def ahP(n:Nat)(p:bL):Prop:=p.tables.length<n/\p.tables.length<=9223372036854775807/\∀t∈p.tables,t.rows.length<n/\t.rows.length<=9223372036854775807
def Dn:ByteArray:=⟨#[115,101,116,98,97,99,107]⟩
def RR(n:Nat)(ts:List bO)(A:List ax)(l:List aF):List aZ:=[⟨⟨#[97,114,101,97]⟩,bif cV A then LY A else 0⟩,⟨⟨#[99,111,118,101,114]⟩,Tb l⟩,⟨⟨#[102,108,111,111,114]⟩,Hi QK l⟩,⟨⟨#[102,108,111,111,114,115]⟩,PJ Nd l⟩,⟨⟨#[104,101,105,103,104,116]⟩,PJ (·.ej) l⟩,⟨⟨#[104,111,109,101,115]⟩,Hi (·.units) l⟩,⟨⟨#[114,117,110,111,102,102]⟩,Tb l⟩,⟨Dn,Dm A l⟩,⟨⟨#[116,114,97,102,102,105,99]⟩,Hi (aoX n ts) l⟩]
theorem aoY{p:bL}{lot:fw}{d:aM}(hp:ahP n p)(hl:lot.area.length<=900)(hd:TD d)(hn:2000000<=n):∀D Z R C V S H,jD n (bL.mk D p.tables Z R C V S H) lot d=some (RR n p.tables (qI lot) (fZ d)):=by
 have hs1:qI lot=(bif cV lot.area then lot.area else []):=rfl;have hsl:(qI lot).length<=900:=by unfold qI;cases cV lot.area<;>simp[hl]
 have hvl:=ZI d;have IH:=ac5 d;have hfl:=eW hd.2;have hd1:=hd.1;obtain⟨hp1,hp2,hp3⟩:=hp;have hz:az 0 ([]:List aF).length=true:=rfl;have IN:∀D Z R C V S H,((bif cV lot.area then some (D,p.tables,Z,R,C,V,S,H,lot.area)else some (D,p.tables,Z,R,C,V,S,H,[])):Option ((List gH)×(List bO)×(List fC)×(List bX)×(List jA)×(List ig)×(List dD)×Int×(List ax)))=some (D,p.tables,Z,R,C,V,S,H,qI lot):=by intro D Z R C V S H;rw[hs1];cases cV lot.area<;>rfl
 have h2:=amQ (n:=n) p.tables (qI lot) (a9:=fZ d) (by omega) (by omega);have h3:=apC (n:=n) p.tables (qI lot) (a9:=fZ d) (by omega) (by omega);have h4:=amJ (n:=n) p.tables (qI lot) (a9:=fZ d) (by omega) (by omega);have h5:=amK (n:=n) p.tables (qI lot) (a9:=fZ d) (by omega) (by omega);have h6:=apD (n:=n) p.tables (qI lot) (a9:=fZ d) (by omega) (by omega);have h8:=λD Z R C V S H=>ahO (n:=n) D p.tables Z R C V S H (a8:=qI lot) (a9:=fZ d) IH (by omega) (by omega) (by omega);have h9:=apF (n:=n) p.tables (qI lot) (a9:=fZ d) (by omega) (by omega) IH hp1 hp2 hp3;intro D Z R C V S H;unfold jD;rw[jf (by omega) (by omega) (by omega),X6 hd (by omega)];simp[IN];rw[aqi (n:=n) D p.tables Z R C V S H (qI lot) (by show(kV d).length<=_;unfold kV;omega) (by show(kV d).length<_;unfold kV;omega)];have hr:((kV d).take 40).filter okV=fZ d:=rfl;have s1:∀e:aZ,sub ([e]:List aZ) 0 1=[e]:=λ_=>rfl;have ap:∀k,k<=20->bK k k 1 1 24=true:=λk hk=>dx (by omega) (by simp[maxLen];omega);have lot:mY n D p.tables Z R C V S H (qI lot) (fZ d)=some (bif cV (qI lot)then LY (qI lot)else 0,D,p.tables,Z,R,C,V,S,H,qI lot,fZ d):=by unfold mY;rw[XL (by omega) (by omega)];simp
 simp[hr,lot,h2,h3,h4,ap 4 (by omega),h5,ap 5 (by omega),h6,ap 6 (by omega),h8,ap 7 (by omega),h9,ap 8 (by omega),Nat.reduceAdd,eU];rfl
theorem apG{p:bL}{lot:fw}{d:aM}(hp:ahP n p)(hl:lot.area.length<=900)(hd:TD d)(hn:2000000<=n):∃e1 e2 e3 e4 e5 e6 e7 e8:Int,∀D Z R C V S H,jD n (bL.mk D p.tables Z R C V S H) lot d=some [⟨⟨#[97,114,101,97]⟩,e1⟩,⟨⟨#[99,111,118,101,114]⟩,e2⟩,⟨⟨#[102,108,111,111,114]⟩,e3⟩,⟨⟨#[102,108,111,111,114,115]⟩,e4⟩,⟨⟨#[104,101,105,103,104,116]⟩,e5⟩,⟨⟨#[104,111,109,101,115]⟩,e6⟩,⟨⟨#[114,117,110,111,102,102]⟩,e7⟩,⟨Dn,Dm (qI lot) (fZ d)⟩,⟨⟨#[116,114,97,102,102,105,99]⟩,e8⟩]:=⟨_,_,_,_,_,_,_,_,aoY (n:=n) hp hl hd hn⟩
theorem aqj{p:bL}{lot:fw}{d:aM}(hp:ahP n p)(hl:lot.area.length<=900)(hd:TD d)(hn:2000000<=n):∃e1 e2 e3 e4 e5 e6 e7 e8:Int,∀R:List bX,jD n (bL.mk p.defs p.tables p.zones R p.caps p.views p.wc p.hours) lot d=some [⟨⟨#[97,114,101,97]⟩,e1⟩,⟨⟨#[99,111,118,101,114]⟩,e2⟩,⟨⟨#[102,108,111,111,114]⟩,e3⟩,⟨⟨#[102,108,111,111,114,115]⟩,e4⟩,⟨⟨#[104,101,105,103,104,116]⟩,e5⟩,⟨⟨#[104,111,109,101,115]⟩,e6⟩,⟨⟨#[114,117,110,111,102,102]⟩,e7⟩,⟨Dn,Dm (qI lot) (fZ d)⟩,⟨⟨#[116,114,97,102,102,105,99]⟩,e8⟩]:=by have⟨e1,e2,e3,e4,e5,e6,e7,e8,h⟩:=apG (n:=n) hp hl hd hn;exact⟨e1,e2,e3,e4,e5,e6,e7,e8,λR=>h _ _ R _ _ _ _⟩
def Mm(p:kW):Bool:=decide (p.bk.length>12) || decide (p.gives.length>6)
def Mb(d:aM):Bool:=!(d.phases.any Mm)&&decide (d.phases.length<=9)
theorem X8{d:aM}(h:d.phases.length<=1000000000000000000)(hn:d.phases.length<n)(hn2:10<=n):oO n [d]=some (Mb d):=by
 have a0:bj [d] 0=some d:=rfl;have s2:=J7 (l:=d.phases) (step:=og [d] 0) Mm () (.inr (.inr false)) (λ i hi=>by
  have d1:decide ((((d.phases[i]).bk.length:Nat):Int)>12)=decide ((d.phases[i]).bk.length>12):=by rw[decide_eq_decide];omega
  have d2:decide ((((d.phases[i]).gives.length:Nat):Int)>6)=decide ((d.phases[i]).gives.length>6):=by rw[decide_eq_decide];omega
  simp only[og,a0,ai,bV hi,aj,aU hi,d1,d2,aX i,Mm];cases decide ((d.phases[i]).bk.length>12)<;>cases decide ((d.phases[i]).gives.length>6)<;>rfl) (by simp only[og,a0,ai,Ow,au]) n hn
 obtain⟨m,rfl⟩:∃m,n=m+2:=⟨n -2,by omega⟩;have d3:decide ((d.phases.length:Int)>9)=!decide (d.phases.length<=9):=by rw[<- decide_not,decide_eq_decide];omega
 have l1:decide ((0:Int)<(([d].length:Nat):Int))=true:=rfl;unfold oO Mb;cases hb:d.phases.any Mm with
 |true=>
  rw[hb]at s2;rw[fD (o:= .inr false) (by simp only[kJ,l1,aj,s2];rfl)];rfl
 |false=>
  rw[hb]at s2;cases h9:decide (d.phases.length<=9)with
  |false=>
   rw[fD (o:= .inr false) (by simp only[kJ,l1,aj,s2,au,iy,a0,ai,d3,h9,Bool.not_false,Option.map_some])];rfl
  |true=>
   rw[jI (v':=1) (by simp only[kJ,l1,aj,s2,au,iy,a0,ai,d3,h9,Bool.not_true];rfl),fD (o:= .inl ()) (by simp only[kJ];rfl)];rfl
theorem ajh(ds:List (ByteArray×ET)) s:∀(k:Nat) i,NI ds s k=some i->0<=i/\i<k
 | 0,i,h=>by simp[NI]at h
 |k+1,i,h=>by simp[NI]at h;split at h;cases h;omega;have:=ajh ds s k i h;omega
theorem aov{ds:List (ByteArray×ET)}(h:sB ds<=4000000):Zz (pu ds) ds.length:=by have hl:=UY ds;refine⟨by simp[pu],by omega,λl hl=>?_⟩;simp only[pu,mem_map]at hl;obtain⟨d,hd,rfl⟩:=hl;have h1:=UZ hd;have h2:=ET.pH d.2;have h3:=aeL d.2.names;refine⟨Nat.le_trans (List.length_filterMap_le _ _) (by omega),λk hk=>?_⟩;simp[ic]at hk;obtain⟨s,_,hk⟩:=hk;exact ajh ds s _ k hk
theorem afq{M:List ByteArray}(hM:M.length<=1000)(hn:1001<=n)(w0:List (ByteArray×Bool)):∃w,iter (oL M) n (0,w0)=some w:=by obtain⟨o,h,_⟩:=eT (step:=oL M) (λ i (v:Int×List (ByteArray×Bool))=>∃w,v=((i:Int),w)/\i<=M.length) (λ _=>True) M.length (λ k v ⟨_,_,h⟩=>h) (by rintro i v ⟨w,rfl,hi⟩;by_cases hlt:i<M.length;simp only[oL,show decide ((i:Int)<M.length)=true from by simp;omega,aj,bA hlt,bH hlt,ai,aX i];exact .inl ⟨_,rfl,_,rfl,hlt⟩;simp only[oL,show decide ((i:Int)<M.length)=false from by simp;omega,au];exact .inr ⟨_,rfl,trivial⟩) n 0 (0,w0) ⟨_,rfl,Nat.zero_le _⟩ (by omega);exact⟨o,h⟩
theorem afr{p:bL}(hp:p.defs.length<=4000000)(hn:4000001<=n)(w0:List (ByteArray×Bool)):iter (lG p) n (0,w0)=some (.inl ())\/iter (lG p) n (0,w0)=some (.inr ([],[],5)):=by
 obtain⟨o,h,h2⟩:=eT (step:=lG p) (λ i (v:Int×List (ByteArray×Bool))=>∃w,v=((i:Int),w)/\i<=p.defs.length) (λ o=>o= .inl ()\/o= .inr ([],[],5)) p.defs.length (λ k v ⟨_,_,h⟩=>h) (by
  rintro i v ⟨w,rfl,hi⟩;by_cases hlt:i<p.defs.length;simp only[lG,show decide ((i:Int)<p.defs.length)=true from by simp;omega,aj,aU hlt,ai,aX i];cases (gD Gb.eb p.defs[i].name w).getD false with
  |true=>exact .inr ⟨_,rfl,.inr rfl⟩
  |false=>exact .inl ⟨_,rfl,_,rfl,hlt⟩
  simp only[lG,show decide ((i:Int)<p.defs.length)=false from by simp;omega,au];exact .inr ⟨_,rfl,.inl rfl⟩) n 0 (0,w0) ⟨_,rfl,Nat.zero_le _⟩ (by omega)
 rcases h2 with rfl |rfl;exact .inl h;exact .inr h
theorem afs:∃M,oJ=some M/\M.length=9:=⟨_,rfl,rfl⟩
def ik(l:List gH):Prop:=sB (l.map toD)<=4000000
theorem ik.len{l:List gH}(h:ik l):l.length<=4000000:=by have:=UY (l.map toD);rw[length_map]at this;unfold ik at h;omega
theorem ik.body{l:List gH}(h:ik l){d:gH}(hd:d∈l):(toE (cu.mk d.jp d.ml d.lh d.i9 d.eQ)).wt<=4000000:=by have h1:=UZ (mem_map.2 ⟨d,hd,rfl⟩:toD d∈l.map toD);unfold ik at h;simp[toD,ET.wt]at h1;simp[toE,ET.wt];omega
theorem TF{p:bL}(hp:ik p.defs)(hn:5000003<=n):∃r,nY n p=some r/\r.1.length<=p.defs.length/\(∀ k∈r.1,0<=k/\k<p.defs.length)/\r.2.1.length<=p.defs.length+1:=by
 obtain⟨M,hM,hM9⟩:=afs;obtain⟨w,hw⟩:=afq (n:=n) (M:=M) (by omega) (by omega) [];have hg:Zz (pu (p.defs.map toD)) p.defs.length:=by have:=aov hp;rwa [length_map]at this
 have IS:lF p.defs=some (p.defs,pu (p.defs.map toD)):=by unfold lF;rw[Nat.ble_eq_true_of_le hp];rfl
 simp only[nY,hM,ai,hw];rcases afr (n:=n) (p:=p) hp.len (by omega) w with h |h;have⟨c,hc,hc2,hc3⟩:=aeX (n:=n) (a0:=p.defs) hg rfl hn;simp only[h,iy,IS,ai,hc];cases h0:(c.length==0)with
 |true=>
  have e:c=[]:=List.eq_nil_of_length_eq_zero (by simpa using h0);obtain⟨l,hl,hll,hlr⟩:=amx (n:=n) (a0:=pX.mk p.defs (pu (p.defs.map toD))) hg rfl (hc2 e) (by omega);simp only[aj,ai,au,hl,eU,aJ];exact⟨_,rfl,by simp[hll],hlr,by simp⟩
 |false=>
  simp only[aj,ai,au,eU,aJ];exact⟨_,rfl,by simp,by simp,hc3⟩
 simp only[h,sF];exact⟨_,rfl,by simp,by simp,by simp⟩
theorem Dp(x:cu):cu.mk x.op x.n x.s x.key x.args=x:=by cases x;rfl
theorem OL:∀l:List cu,IB l=l.map toE
 |[]=>rfl
 |x::xs=>by simp[IB,OL xs]
theorem aji:∀{l:List ET}{t:ET},t∈l->t.wt<=ET.tP l
 |x::l,t,h=>by simp[ET.tP];rcases aH.1 h with rfl |h;omega;have:=aji h;omega
theorem ahQ{e x:cu}(h:x∈e.args):(toE x).wt<(toE e).wt:=by have h1:(toE x).wt<=ET.tP (IB e.args):=aji (by rw[OL];exact mem_map.2 ⟨x,h,rfl⟩);cases e;simp[toE,ET.wt]at *;omega
theorem Vd(e:cu):e.args.length<(toE e).wt:=by have h1:=ET.rS (IB e.args);rw[OL,length_map]at h1;cases e;simp[toE,ET.wt,OL]at *;omega
def VR:Nat->cu->Prop
 | 0,_=>False
 |k+1,e=>y8 e.op=some ((e.args.length:Int),true)/\∀x∈e.args,VR k x
theorem ahR op:∃a b,y8 op=some (a,b):=by simp only[y8];cases (op==0)<;>cases (op==1)<;>cases (op==2)<;>cases (op==3)<;>cases (op==9)<;>cases (op==15)<;>cases (op==16)<;>cases (decide (op>=0))<;>exact⟨_,_,rfl⟩
theorem aby(hn:4000002<=n):∀(m:Nat)(e:cu)(a:Int),m<=9223372036854775000->0<=a->a<=12->13<=a+m->(toE e).wt<=4000000->∃r,sK n m e a=some r/\1<=r/\r<=13+m/\(r<=12->VR m e)
 | 0,_,_,_,_,_,h,_=>absurd h (by omega)
 |m+1,e,a,hm,h0,h1,h2,h3=>by
  have⟨x,b,hx⟩:=ahR e.op;have hla:=Vd e;show ∃r,Au n (sK n m) e a=some r/\_;simp[Au,hx];have bad:∃r,some (13:Int)=some r/\1<=r/\r<=13+(m+1:Nat)/\(r<=12->VR (m+1) e):=⟨13,rfl,by omega,by omega,λh=>absurd h (by omega)⟩;cases b with
  |false=>simpa[Bool.not_false,aj,ai]using bad
  |true=>
   simp;by_cases hxl:x=e.args.length;subst hxl;simp;by_cases ha:a>=12;simpa[ha,decide_true,aj]using bad;simp[ha]
   obtain⟨o,g1,g2,g3,g4⟩:=eT (step:=xQ n (sK n m) e a) (λ i (v:Int×Int)=>v.2=i/\i<=e.args.length/\0<=v.1/\v.1<=13+m/\(v.1<=11->∀y∈e.args.take i,VR m y))
    (λ o=>0<=o/\o<=13+m/\(o<=11->∀y∈e.args,VR m y)) e.args.length (λ k v h=>h.2.1) (by rintro i ⟨v2,v3⟩ ⟨hv,hi,i1,i2,i3⟩;simp at hv i1 i2 i3;subst hv;by_cases hlt:i<e.args.length;left;have hwx:=ahQ (getElem_mem hlt);obtain⟨r,r1,r2,r3,r4⟩:=aby hn m e.args[i] (a+1) (by omega) (by omega) (by omega) (by omega) (by omega);refine⟨(max v2 r,(i+1:Nat)),?_,rfl,hlt,by show 0<=max v2 r;omega,by show max v2 r<=_;omega,λh y hy=>?_⟩;simp only[xQ,show decide ((i:Int)<e.args.length)=true from by simp;omega,aj,aU hlt,ai,Dp,dw (show -9223372036854775808<=a+1 by omega) (show a+1<=9223372036854775807 by omega),r1,aX i];have h':max v2 r<=11:=h;rw[List.take_add_one,dm hlt]at hy;rw[bM]at hy;rcases hy with hy |hy;exact i3 (by omega) y hy;simp at hy;subst hy;exact r4 (by omega);right;refine⟨v2,?_,i1,i2,λh y hy=>i3 h y (by rw[take_of_length_le (by omega)];exact hy)⟩;simp only[xQ,show decide ((i:Int)<e.args.length)=false from by simp;omega,au]) n 0 (0,0) ⟨rfl,Nat.zero_le _,by simp,by show 0<=_;omega,by simp⟩ (by omega)
   simp only[g1,ai];rw[dw (by omega) (by omega)];exact⟨o+1,rfl,by omega,by omega,λh=>⟨hx,g4 (by omega)⟩⟩;simpa[show (x !=(e.args.length:Nat))=true from by simpa using hxl,aj,ai]using bad
theorem SL(hn:4000002<=n)(hn2:n<=9223372036854775000){e:cu}(h:(toE e).wt<=4000000):∃b,IA n e=some b/\(b=true->VR n e):=by obtain⟨r,h1,h2,h3,h4⟩:=aby hn n e 0 hn2 (by omega) (by omega) (by omega) h;refine⟨decide (r<=12),?_,λh=>h4 (by simpa using h)⟩;simp[IA,Dp,Qw,h1]
def aqk(tables:List bO)(s key:ByteArray):Int:=match tables.find? λt=>ByteArray.toList t.name==ByteArray.toList s with
 |some t=>PT t key
 |none=>0
def RM(ts:List bO):Prop:=ts.length<=4000000/\∀t∈ts,t.rows.length<=4000000
theorem akt(hn:4000002<=n){a0:List gH}{ts:List bO}{a2:List fC}{a3:List bX}{a4:List jA}{a5:List ig}{a6:List dD}{a7:Int}{zs:List ByteArray}(ht:RM ts)(e:cu)(kn:List (ByteArray×Int)):jw n a0 ts a2 a3 a4 a5 a6 a7 zs e kn=some (aqk ts e.s e.key,kn):=by
 have h1:=ht.1;simp[jw];rw[u7 (λ t=>ByteArray.toList t.name==ByteArray.toList e.s) (λ x _=>rfl) (by omega) (by omega)];simp[aqk];rcases EW (λ t:bO=>ByteArray.toList t.name==ByteArray.toList e.s) ts with ⟨i,hi,h1,h2⟩ |⟨h1,h2⟩;rw[h1,h2];have d:decide ((i:Int)<0)=false:=by simp
 have hr:=ht.2 _ (getElem_mem hi);simp[d,aU hi];rw[ve (λ x=>ByteArray.toList x.name==ByteArray.toList e.key) (λ x _=>rfl) (by omega) (by omega)];simp[PT];rcases EW (λ x:aZ=>ByteArray.toList x.name==ByteArray.toList e.key) ts[i].rows with ⟨j,hj,g1,g2⟩ |⟨g1,g2⟩;rw[g1,g2];have d:decide ((j:Nat)>=0)=true:=by simp
 simp[aU hj];rw[g1,g2];rfl;rw[h1,h2];rfl
theorem eu{α:Type}{c:Bool}{x y:Option α}(hx:∃r,x=some r)(hy:∃r,y=some r):∃r,(bif c then x else y)=some r:=by cases c<;>assumption
theorem ZJ(a b:Int):∃r,wU a b=some r:=by
 simp[wU];cases h:(b==0)with
 |true=>exact⟨_,rfl⟩
 |false=>
  have:(b !=0)=true:=by simp[bne,h]
  simp[this];cases (Int.tmod a b !=0)<;>cases (decide (Int.tmod a b<0)==decide (b<0))<;>exact⟨_,rfl⟩
theorem X9 b:∃r,y9 b=some r:=eu ⟨_,rfl⟩ ⟨_,rfl⟩
theorem sO{α β:Type}{x:Option α}{f:α->Option β}(hx:∃r,x=some r)(hf:∀r,∃s,f r=some s):∃s,x.bind f=some s:=by obtain⟨r,rfl⟩:=hx;exact hf r
theorem aft(op a b:Int):∃r,JZ op a b=some r:=by
 have q:=ZJ a b;have t:=λc=>X9 c;unfold JZ
 repeat' first
  |exact⟨_,rfl⟩
  |exact q
  |exact t _
  |apply eu
  |(refine sO ?_ λr=>?_)
theorem Ja(h:0<n):cN 0 n=true:=by simp[cN];omega
theorem afu(h:1<n):cN 1 n=true:=by simp[cN];omega
theorem amT(h:2<n):cN 2 n=true:=by simp[cN];omega
theorem OM{α:Type}{l:List α}(h:0<l.length):bj l ((0:Nat)+0)=some l[0]:=bH (i:=0) h
theorem ajk{α:Type}{l:List α}(h:1<l.length):bj l ((0:Nat)+1)=some l[1]:=bH (i:=1) h
theorem aow{α:Type}{l:List α}(h:2<l.length):bj l ((0:Nat)+2)=some l[2]:=bH (i:=2) h
theorem ZK{l:List ByteArray}{s:ByteArray}(hl:l.length<=4000000)(hn:4000002<=n):∃r,dQ n l s=some r:=by
 obtain⟨o,h,_⟩:=eT (step:=nS l s) (λ i v=>v=i/\i<=l.length) (λ _=>True) l.length (λ k v h=>h.2) (by
  rintro i v ⟨rfl,hi⟩;by_cases hlt:i<l.length;simp only[nS,show decide ((i:Int)<l.length)=true from by simp;omega,aj,aU hlt,ai,aX i];cases (ByteArray.toList s==ByteArray.toList l[i])with
  |true=>exact .inr ⟨_,rfl,trivial⟩
  |false=>exact .inl ⟨_,rfl,rfl,hlt⟩
  simp only[nS,show decide ((i:Int)<l.length)=false from by simp;omega,au];exact .inr ⟨_,rfl,trivial⟩) n 0 0 ⟨rfl,Nat.zero_le _⟩ (by omega)
 simp only[dQ,rG,h];cases o with
 |inl u=>cases u;simp only[iy,ai];exact⟨_,rfl⟩
 |inr r=>simp only[sF,ai];exact⟨_,rfl⟩
theorem aku{op a:Int}(h0:(op==0)=false)(h1:(op==1)=false)(h2:(op==2)=false)(h3:(op==3)=false)(h9:(op==9)=false)(PA:(op==15)=false)(h16:(op==16)=false)(h:y8 op=some (a,true)):a=2:=by
 simp[y8,h0,h1,h2,h3,h9,PA,h16]at h;cases hd:decide (op>=0)with
 |true=>rw[hd]at h;simp at h;exact h.1.symm
 |false=>rw[hd]at h;simp at h
section
variable {n:Nat} {a0:List gH} {ts:List bO} {a2:List fC} {a3:List bX} {a4:List jA} {a5:List ig} {a6:List dD} {a7:Int} {zs:List ByteArray}
theorem Ya(hn:4000002<=n)(ht:RM ts)(hz:zs.length<=4000000):∀(m:Nat)(e:cu)(kn:List (ByteArray×Int)),VR m e->(toE e).wt<=4000000->∃v,bQ n m a0 ts a2 a3 a4 a5 a6 a7 zs e kn=some (v,kn)
 | 0,_,_,h,_=>h.elim
 |m+1,e,kn,⟨ha,hr⟩,hw=>by
  have hla:=Vd e;have hmx:maxLen=9223372036854775807:=rfl;show ∃v,eZ n (bQ n m) a0 ts a2 a3 a4 a5 a6 a7 zs e kn=some (v,kn)
  obtain⟨o,h1,l,rfl,hl⟩:=eT (step:=eG n (bQ n m) a0 ts a2 a3 a4 a5 a6 a7 zs e) (λ i (v:Int×List (ByteArray×Int)×List Int)=>∃l,v=((i:Int),kn,l)/\i<=e.args.length/\l.length=i)
   (λ o=>∃l,o=(kn,l)/\l.length=e.args.length) e.args.length (λ k v ⟨_,_,h,_⟩=>h) (by
   rintro i v ⟨l,rfl,hi,hl⟩;by_cases hlt:i<e.args.length;left;have hwx:=ahQ (getElem_mem hlt);obtain⟨x,hx⟩:=Ya hn ht hz m e.args[i] kn (hr _ (getElem_mem hlt)) (by omega);have key:∃b,((bif (e.op==(16:Int))then(bif (decide ((i:Int)>(0:Int)))then(ck (cN 0 l.length) ((bj l ((0:Nat)+0:Int)).bind λx2=>some (!((x2 !=(0:Int))==((i:Int)==1)))))else some false)else some false):Option (Bool))=some b:=(by refine eu ?_ ⟨_,rfl⟩;by_cases h0:(i:Int)>0;simp only[h0,decide_true,aj,Ja (show 0<l.length by omega),OM (show 0<l.length by omega),ai];exact⟨_,rfl⟩;simp only[h0,decide_false,au];exact⟨_,rfl⟩);obtain⟨b,hb⟩:=key;have hap:∀z:Int,bK l.length l.length (sub [z] 0 1).length 1 8=true:=λz=>(by simp[bK,sub];omega);simp only[eG,show decide ((i:Int)<e.args.length)=true from by simp;omega,aj,aU hlt,ai,hb,Dp,hx,hap,fu,aJ,aX i];cases b with
   |true |false=>exact⟨_,rfl,_,rfl,hlt,by simp[sub,hl]⟩
   right;refine⟨(kn,l),?_,l,rfl,by omega⟩;simp only[eG,show decide ((i:Int)<e.args.length)=false from by simp;omega,au,aJ,aj]) n 0 (0,kn,[]) ⟨[],rfl,Nat.zero_le _,rfl⟩ (by omega)
  simp only[eZ,length_nil,aJ,aj,h1,ai,Dp,akt hn ht];cases h0:(e.op==0)with
  |true=>exact⟨_,rfl⟩
  |false=>
  cases h1:(e.op==1)with
  |true=>exact⟨_,rfl⟩
  |false=>
  cases h2:(e.op==2)with
  |true=>exact⟨_,rfl⟩
  |false=>
  cases h3:(e.op==3)with
  |true=>
   have⟨r,hr⟩:=ZK (n:=n) (l:=zs) (s:=e.s) hz hn;have⟨r2,hr2⟩:=X9 r;simp only[au,aj,hr,hr2,ai];exact⟨_,rfl⟩
  |false=>
  cases h9:(e.op==9)with
  |true=>
   have e9:e.op=9:=(by simpa using h9);rw[e9]at ha;have:l.length=1:=(by have h:some (1,true)=some ((e.args.length:Int),true):=ha;simp at h;omega);simp only[au,aj,Ja (show 0<l.length by omega),OM (show 0<l.length by omega),ai];exact⟨_,rfl⟩
  |false=>
  cases PA:(e.op==15)with
  |true=>
   have e15:e.op=15:=(by simpa using PA);rw[e15]at ha;have:l.length=1:=(by have h:some (1,true)=some ((e.args.length:Int),true):=ha;simp at h;omega);obtain⟨r2,hr2⟩:=X9 (l[0]'(by omega)==0);simp only[au,aj,Ja (show 0<l.length by omega),OM (show 0<l.length by omega),ai,hr2];exact⟨_,rfl⟩
  |false=>
  cases h16:(e.op==16)with
  |true=>
   have e16:e.op=16:=(by simpa using h16);rw[e16]at ha;have:l.length=3:=(by have h:some (3,true)=some ((e.args.length:Int),true):=ha;simp at h;omega);simp only[au,aj,Ja (show 0<l.length by omega),OM (show 0<l.length by omega),afu (show 1<l.length by omega),ajk (show 1<l.length by omega),amT (show 2<l.length by omega),aow (show 2<l.length by omega),ai];cases (l[0]'(by omega) !=0)<;>exact⟨_,rfl⟩
  |false=>
   have:l.length=2:=(by have:=aku h0 h1 h2 h3 h9 PA h16 ha;omega);obtain⟨r,hr⟩:=aft e.op (l[0]'(by omega)) (l[1]'(by omega));simp only[au,aj,Ja (show 0<l.length by omega),OM (show 0<l.length by omega),afu (show 1<l.length by omega),ajk (show 1<l.length by omega),ai,hr];exact⟨_,rfl⟩
end
theorem ahS{ms:List aZ}(h:ms.length<=4000000)(hn:4000002<=n):∃o,iter (iV n ms) n (0,[],[])=some o:=by obtain⟨o,h,_⟩:=eT (step:=iV n ms) (λ i (v:Int×List (ByteArray×Int)×List (ByteArray×Bool))=>∃a b,v=((i:Int),a,b)/\i<=ms.length) (λ _=>True) ms.length (λ k v ⟨_,_,_,h⟩=>h) (by rintro i v ⟨a,b,rfl,hi⟩;by_cases hlt:i<ms.length;left;simp only[iV,show decide ((i:Int)<ms.length)=true from by simp;omega,aj,aU hlt,ai,aX i];cases (!((gD Gb.eb ms[i].name b).getD false))<;>exact⟨_,rfl,_,_,rfl,hlt⟩;right;simp only[iV,show decide ((i:Int)<ms.length)=false from by simp;omega,au];exact⟨_,rfl,trivial⟩) n 0 _ ⟨[],[],rfl,Nat.zero_le _⟩ (by omega);exact⟨o,h⟩
structure ahT(p:bL):Prop where
 defs:ik p.defs
 tabs:RM p.tables
theorem ac6(a b:ByteArray):Gb.eb a b=true↔a=b:=by unfold Gb.eb;rw[beq_iff_eq,ByteArray.toList_eq,ByteArray.toList_eq];exact⟨λ h=>ByteArray.ext (Array.toList_inj.1 h),λh=>by rw[h]⟩
theorem afv{V:Type}(k k':ByteArray)(v:V)(h:k≠k'):∀l:List (ByteArray×V),gD Gb.eb k (FV Gb.eb k' v l)=gD Gb.eb k l
 |[]=>by
  have:Gb.eb k k'=false:=by rw[Bool.eq_false_iff];exact λe=>h ((ac6 _ _).1 e)
  simp[FV,gD,this]
 |p::l=>by
  have e:Gb.eb k k'=false:=by rw[Bool.eq_false_iff];exact λe=>h ((ac6 _ _).1 e)
  have ih:=afv k k' v h l;simp[FV];cases c:Gb.eb k' p.1 with
  |true=>
   have:=(ac6 _ _).1 c;subst this;simp[gD,e]
  |false=>simp[gD,ih]
theorem Ma{p:bL}{ms:List aZ}{zs:List ByteArray}(hp:ahT p)(hm:ms.length<=4000000)(hz:zs.length<=4000000)(hn:5000003<=n)(hn2:n<=9223372036854775000):∃kn out,mR n p ms zs=some (p.defs,p.tables,p.zones,p.rules,p.caps,p.views,p.wc,p.hours,zs,kn,out)/\out.length=p.defs.length/\∀w,iter (iV n ms) n (0,[],[])=some w->∀s,(gD Gb.eb s w.2).getD false=true->gD Gb.eb s kn=gD Gb.eb s w.1:=by
 obtain⟨⟨w1,w2⟩,hs1⟩:=ahS (n:=n) hm (by omega);have⟨r,hr,hrl,hrr,_⟩:=TF (n:=n) hp.defs hn;have hl:=hp.defs.len;have hmx:maxLen=9223372036854775807:=rfl;have hmk:sQ p.defs.length 8=true:=by simp[sQ];omega
 simp only[mR,hs1,ai,Int.le_refl,decide_true,Bool.true_and,show decide (0<=p.defs.length)=true from by simp,hmk,aj,hr];cases hb:(r.2.2 !=0)with
 |true=>
  simp only[aj,Int.toNat_natCast,List.length_replicate,aJ];exact⟨_,_,rfl,by simp,λw hw s _=>by cases hw;rfl⟩
 |false=>
  obtain⟨o,h1,kn,out,rfl,h2,h3⟩:=eT (step:=gL n p zs w2 r) (λ i (v:Int×List (ByteArray×Int)×List Int)=>∃kn out,v=((i:Int),kn,out)/\i<=r.1.length/\out.length=p.defs.length/\∀s,(gD Gb.eb s w2).getD false=true->gD Gb.eb s kn=gD Gb.eb s w1)
   (λ o=>∃kn out,o=(kn,out)/\out.length=p.defs.length/\∀s,(gD Gb.eb s w2).getD false=true->gD Gb.eb s kn=gD Gb.eb s w1) r.1.length (λ k v ⟨_,_,_,h,_⟩=>h) (by
   rintro i v ⟨kn,out,rfl,hi,hol,hK⟩;by_cases hlt:i<r.1.length;left;have hk:=hrr r.1[i] (getElem_mem hlt);obtain⟨k,hk2⟩:=Int.eq_ofNat_of_zero_le hk.1;have hkd:k<p.defs.length:=(by omega);have hko:k<out.length:=(by omega);have hbw:=hp.defs.body (getElem_mem hkd);obtain⟨b,hb1,hb2⟩:=SL (n:=n) (by omega) hn2 hbw;simp only[gL,show decide ((i:Int)<r.1.length)=true from by simp;omega,aj,bA hlt,bH hlt,ai,hk2,aU hkd,hb1,Int.toNat_natCast,bA hkd,bH hko,aX i,show(((0:Nat):Int)+k).toNat=k by omega];have step2:∀(O2:List (ByteArray×Int)) out',out'.length=p.defs.length->(∀ s,(gD Gb.eb s w2).getD false=true->gD Gb.eb s O2=gD Gb.eb s w1)->∃It,((bif (!((gD Gb.eb p.defs[k].name w2).getD false))then(bj out' ((0:Nat)+k:Int)).bind λx5=>some ((FV Gb.eb p.defs[k].name x5 O2),out')else some (O2,out')):Option ((List (ByteArray×Int))×(List Int)))=some (It,out')/\∀s,(gD Gb.eb s w2).getD false=true->gD Gb.eb s It=gD Gb.eb s w1:=by
    intro O2 out' ho hK;cases hc:(gD Gb.eb p.defs[k].name w2).getD false with
    |false=>
     simp only[Bool.not_false,aj,bH (show k<out'.length by omega),ai];exact⟨_,rfl,λs hs=>by rw[afv _ _ _ (λ e=>by rw[e,hc]at hs;cases hs)];exact hK s hs⟩
    |true=>exact⟨_,rfl,hK⟩
   cases b with
   |true=>
    obtain⟨v,hv⟩:=Ya (n:=n) (a0:=p.defs) (a2:=p.zones) (a3:=p.rules) (a4:=p.caps) (a5:=p.views) (a6:=p.wc) (a7:=p.hours) (by omega) hp.tabs hz n _ kn (hb2 rfl) hbw;simp only[fQ,hv,aj,ai];obtain⟨kn2,h2,h3⟩:=step2 kn (out.set k v) (by simp[hol]) hK;rw[h2];exact⟨_,rfl,_,_,rfl,hlt,by simp[hol],h3⟩
   |false=>
    simp only[au,ai];have⟨kn2,h2,h3⟩:=step2 kn out hol hK;rw[h2];exact⟨_,rfl,_,_,rfl,hlt,hol,h3⟩
   right;simp only[gL,show decide ((i:Int)<r.1.length)=false from by simp;omega,au];exact⟨_,rfl,_,_,rfl,hol,hK⟩) n 0 (0,w1,List.replicate p.defs.length 0) ⟨_,_,rfl,Nat.zero_le _,by simp,λ_ _=>rfl⟩ (by omega)
  simp only[au,Int.toNat_natCast,h1,ai,h2,aJ,aj];exact⟨_,_,rfl,h2,λw hw=>by cases hw;exact h3⟩
end Go.Proofs
