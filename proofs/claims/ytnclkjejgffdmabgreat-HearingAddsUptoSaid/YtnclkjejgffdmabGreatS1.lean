import Derived.Test.YtnclkjejgffdmabGreatTD1
open Go.IntKind (i64)
open List (length_take mem_map all_eq_true getElem_mem length_map mem_iff_getElem length_drop length_nil foldl_cons take_of_length_le any_eq_true pairwise_cons length_filter_le map_append pairwise_append getElem_drop)
namespace Go.Proofs
open Go.Gb Go.RowKit
variable {n:Nat}
theorem kR(a b:Int):cmp_Compare_int a b=some (if a<b then -1 else if b<a then 1 else 0):=by by_cases h1:a<b;simp[cmp_Compare_int,cmp_isNaN_int,h1];by_cases h2:b<a;simp[cmp_Compare_int,cmp_isNaN_int,h1,h2];simp[cmp_Compare_int,cmp_isNaN_int,h1,h2]
theorem kS{l:List Int}(hl:l.length<1099511627776)(_:l.length<n):lX n l=some (kr pm l):=by show OK l=_;unfold OK;rw[Nat.ble_eq_true_of_le (show l.length<=1099511627775 by omega),aj]
theorem mV{l:List Int}(hl:l.length<1099511627776)(hn:l.length<n):kH n l=some ((),iM l):=by rw[<- aff];exact ZV (eq:=λx y=>x==y) (ne:=λx y=>x !=y) (λ x y=>by simp[bne]) hl hn
theorem Ud{l:List Int}{a:Int}(hl:l.length<1099511627776)(hn:l.length<n):E9 n l a=some (yu (λ x=>a==x) l):=IW hl hn
theorem zG{l:List Int}{a:Int}(hl:l.length<1099511627776)(hn:l.length<n):oW n l a=some (l.any λx=>a==x):=by unfold oW;rw[Ud hl hn,ai,rY]
theorem vI{l:List bQ}{φ:(bQ×Unit)->Option Bool}(p:bQ->Bool)(h:∀x∈l,φ (x,())=some (p x))(hl:l.length<1099511627776)(hn:l.length<n):og n l φ=some (yu p l):=fK p h hl hn
theorem vJ{l:List bg}{φ:(bg×Unit)->Option Bool}(p:bg->Bool)(h:∀x∈l,φ (x,())=some (p x))(hl:l.length<1099511627776)(hn:l.length<n):iX n l φ=some (yu p l):=fK p h hl hn
theorem Dx{l:List ax}(h:l.length<1099511627776):BN l=some l:=AP (b:=32) (by omega) (by simp[maxLen];omega)
theorem OY{l:List (List ax)}(hf:l.flatten.length<1099511627776)(hl:l.length<1099511627776)(hn:l.length<n):zu n l=some l.flatten:=Oe (ax.mk 0 0 0 0) (b:=32) hf (by omega) hl hn
theorem Dy{a b:List ax}(hl:a.length<1099511627776)(hn:a.length<n):pI n a b=some (decide (a=b)):=by
 have e:pI n a b=Og n (λ x1 x2:ax=>!((x1.x0==x2.x0)&&((x1.y0==x2.y0)&&((x1.x1==x2.x1)&&((x1.y1==x2.y1)&&true))))) a b:=by kernel_rfl
 rw[e];refine IX (λ x y=>?_) hl hn;obtain⟨a,b,c,d⟩:=x;obtain⟨e,f,g,h⟩:=y;simp;rw[fB];simp
theorem Dz{a b:List aR}(hl:a.length<1099511627776)(hn:a.length<n):wL n a b=some (decide (a=b)):=by
 have e:wL n a b=Og n (λ x1 x2:aR=>!((x1.from_==x2.from_)&&((x1.to==x2.to)&&true))) a b:=by kernel_rfl
 rw[e];refine IX (λ x y=>?_) hl hn;obtain⟨a,b⟩:=x;obtain⟨c,d⟩:=y;simp;rw[fB];simp
abbrev uA(a b:aR):Bool:=decide (a.from_<b.from_)
theorem OZ:Go.Sort.SWO uA where
 irrefl x:=by simp[uA]
 trans x y z h1 h2:=by simp only[uA,bF]at *;omega
 ntrans x y z h1 h2:=by simp only[uA,fF]at *;omega
theorem KM{l:List aR}{φ:(aR×aR×Unit)->Option Int}(f:aR->aR->Int)(hφ:∀x y,φ (x,y,())=some (f x y))(hf:∀x y,decide (f x y<0)=uA x y)(hl:l.length<1099511627776)(_:l.length<n):vY n l φ=some (jq uA l):=
 afr f hφ hf OZ hl
theorem adh{V O:Type}{step:V->Option (V⊕O)}(Inv:V->Prop)(Post:O->Prop)(μ:V->Nat)
 (h:∀v,Inv v->(∃ v',step v=some (.inl v')/\Inv v'/\μ v'< μ v)\/∃o,step v=some (.inr o)/\Post o):∀(n:Nat)(v:V),Inv v->μ v<n->∃o,iter step n v=some o/\Post o
 | 0,_,_,hn=>absurd hn (Nat.not_lt_zero _)
 |n+1,v,hi,hn=>by rcases h v hi with ⟨v',h1,h2,h3⟩ |⟨o,h1,h2⟩;rw[jL h1];exact adh Inv Post μ h n v' h2 (by omega);exact⟨o,fI h1,h2⟩
theorem xK:∀(N:Nat)(l:List Nat),l.Nodup->(∀ y∈l,y<N)->l.length<=N
 | 0,[],_,_=>aB _
 | 0,x::l,_,h=>absurd (h x (by simp)) (by omega)
 |N+1,l,hn,h=>by
  have h1:=xK N (l.filter λy=>decide (y≠N)) (hn.filter _) (λ y hy=>by rw[List.mem_filter]at hy;have:=h y hy.1;have:=hy.2;simp at this;omega);have h2:=List.length_eq_countP_add_countP (λ y=>decide (y≠N)) (l:=l);rw[List.countP_eq_length_filter]at h2;have h3:List.countP (λ a=>decide ¬(decide (a≠N)=true)) l=l.count N:=by rw[List.count];refine List.countP_congr λy _=>?_;simp
  have h4:=List.nodup_iff_count.1 hn N;omega
def Z4(us:List (List Int))(N:Nat):Prop:=us.length=N/\N<=4000000/\∀l∈us,l.length<=4000000/\∀k∈l,0<=k/\k<N
structure BI(us:List (List Int))(N to h:Nat)(d:List Int)(F:List Nat):Prop where
 dl:d.length=N
 nd:F.Nodup
 rg:∀x∈F,x<N
 mem:∀i:Nat,i<N->(0<=d.getD i 0↔i∈F)
 ub:∀j x:Nat,F[j]? =some x->d.getD x 0<=(j:Int)
 pre:∀j x:Nat,F[j]? =some x->0<j->∃p y:Nat,p<j/\F[p]? =some y/\(y:Int)∈us.getD x []/\d.getD y 0=d.getD x 0 -1
 hd:F[0]? =some to/\d.getD to 0=0
 hh:h<=F.length
 cl:∀p y:Nat,p<h->F[p]? =some y->∀i:Nat,i<N->(y:Int)∈us.getD i []->0<=d.getD i 0
theorem BI.len{us:List (List Int)}{N to h:Nat}{d:List Int}{F:List Nat}(b:BI us N to h d F):F.length<=N:=by exact xK N F b.nd b.rg
theorem BI.push{us:List (List Int)}{N to h:Nat}{d:List Int}{F:List Nat}(b:BI us N to h d F){i x p:Nat}(hi:i<N)(hd:d.getD i 0<0)(hp:F[p]? =some x)(hx:(x:Int)∈us.getD i []):
 BI us N to h (d.set i (d.getD x 0+1)) (F++[i]):=by
 have hiF:i∉F:=λhm=>by have:=(b.mem i hi).2 hm;omega
 have WD:x∈F:=bT hp;have hne:∀y,y∈F->i≠y:=λy hy e=>hiF (e ▸ hy);have hset:∀y,y∈F->(d.set i (d.getD x 0+1)).getD y 0=d.getD y 0:=λy hy=>by simp[List.getElem?_set_ne (hne y hy)]
 have xj:(d.set i (d.getD x 0+1)).getD i 0=d.getD x 0+1:=by
  have:i<d.length:=by rw[b.dl];exact hi
  simp[this]
 have hx0:0<=d.getD x 0:=(b.mem x (b.rg x WD)).2 WD;have hlt:p<F.length:=(cZ.1 hp).1;refine⟨by simpa using b.dl,?_,?_,?_,?_,?_,?_,?_,?_⟩;rw[List.nodup_append];exact⟨b.nd,by simp,λa ha c hc=>by simp at hc;subst hc;exact λe=>hiF (e ▸ ha)⟩;intro y hy;rw[bP]at hy;rcases hy with hy |hy;exact b.rg y hy;simp at hy;omega;intro j hj;by_cases e:i=j;subst e;rw[xj];exact⟨λ _=>by simp,λ_=>by omega⟩;simp only[List.getD,List.getElem?_set_ne e];rw[bP];have:=b.mem j hj;simp at this;rw[this];simp[Ne.symm e];intro j y hy;rw[List.getElem?_append]at hy;split at hy;rw[hset y (bT hy)];exact b.ub j y hy;rename_i hj;have:y=i/\j=F.length:=by
  cases h:j -F.length with
  |zero=>rw[h]at hy;simp at hy;exact⟨hy.symm,by omega⟩
  |succ z=>rw[h]at hy;simp at hy
 obtain⟨rfl,rfl⟩:=this;rw[xj];have:=b.ub p x hp;omega;intro j y hy hj;rw[List.getElem?_append]at hy;split at hy;have⟨p',y',h1,h2,h3,h4⟩:=b.pre j y hy hj;exact⟨p',y',h1,by rw[List.getElem?_append_left (by have:=(cZ.1 h2).1;exact this)];exact h2,h3,by rw[hset y' (bT h2),hset y (bT hy)];exact h4⟩;rename_i hj';have:y=i/\j=F.length:=by
  cases h:j -F.length with
  |zero=>rw[h]at hy;simp at hy;exact⟨hy.symm,by omega⟩
  |succ z=>rw[h]at hy;simp at hy
 obtain⟨rfl,rfl⟩:=this;exact⟨p,x,hlt,by rw[List.getElem?_append_left hlt];exact hp,hx,by rw[xj,hset x WD];omega⟩;have h0:=(cZ.1 b.hd.1).1;exact⟨by rw[List.getElem?_append_left h0];exact b.hd.1,by rw[hset _ (bT b.hd.1)];exact b.hd.2⟩;have:=b.hh;simp;omega;intro p' y hp' hy j hj hm;rw[List.getElem?_append_left (by have:=b.hh;omega)]at hy;have:=b.cl p' y hp' hy j hj hm;rw[hset j ((b.mem j hj).1 this)];exact this
theorem qq{α:Type}(o:Nat)(l:List α):WH o l=l.drop o:=by cases o<;>simp[WH]
def BS(us:List (List Int))(N to h x:Nat):(Int×Int×List Int×List Int)->Prop
 |(v4,v5,d,v7)=>∃(o i:Nat)(F:List Nat),v4=o/\v5=i/\o<=v7.length/\v7.drop o=(F.drop (h+1)).map (λ k:Nat=>(k:Int))/\i<=N/\BI us N to h d F/\F[h]? =some x/\∀i',i'<i->(x:Int)∈us.getD i' []->0<=d.getD i' 0
theorem aoV{n N to h x:Nat}{a0:qi}{r1:List Int}(hg:Z4 a0.uses N)(hr:r1.length=N)(hn:4000001<=n)(v:Int×Int×List Int×List Int)(hv:BS a0.uses N to h x v):
 (∃ v',fQ n a0 r1 x v=some (.inl v')/\BS a0.uses N to h x v'/\N -v'.2.1.toNat<N -v.2.1.toNat)\/
 ∃q,fQ n a0 r1 x v=some (.inr q)/\∃(o:Nat)(F:List Nat),q.1=(o:Int)/\o<=q.2.2.length/\q.2.2.drop o=(F.drop (h+1)).map (λ k:Nat=>(k:Int))/\BI a0.uses N to (h+1) q.2.1 F:=by
 obtain⟨v4,v5,d,v7⟩:=v;obtain⟨o,i,F,rfl,rfl,ho,hq,hi,hb,hx,hc⟩:=hv;have hx':x<N:=hb.rg x (bT hx);have AW:=hg.1;have hdl:=hb.dl;by_cases hlt:i<N;left;have xT:i<a0.uses.length:=by omega
 have hl:=hg.2.2 a0.uses[i] (getElem_mem xT);have hcon:=zG (n:=n) (l:=a0.uses[i]) (a:=(x:Int)) (by omega) (by omega);have hud:a0.uses.getD i []=a0.uses[i]:=by simp[xT]
 have hdi:d[i]'(by omega)=d.getD i 0:=by simp[show i<d.length by omega]
 have HB:d[x]'(by omega)=d.getD x 0:=by simp[show x<d.length by omega]
 simp only[fQ,show decide ((i:Int)<((a0.uses.length:Int)))=true from by simp;omega,aj,aQ xT,ai,aZ (show i<r1.length by omega),aZ (show x<r1.length by omega),
  bK (show i<d.length by omega),bK (show x<d.length by omega),hcon,hdi,HB]
 have hFl:=hb.len;have hN:=hg.2.1;have hlen:v7.length -o=F.length -(h+1):=by have:=congrArg List.length hq;simpa using this
 have hmx:maxLen=9223372036854775807:=rfl;by_cases hA:d.getD i 0<0/\(x:Int)∈a0.uses[i];have h1:(a0.uses[i].any λy=>(x:Int)==y)=true:=any_eq_true.2 ⟨_,hA.2,by simp⟩;have hx0:0<=d.getD x 0:=(hb.mem x hx').2 (bT hx);have hxu:=hb.ub h x hx;have hFh:h<F.length:=(cZ.1 hx).1;have hap:bJ (v7.drop o).length (v7.length -o) (sub [(i:Int)] 0 1).length 1 8=true:=by simp[bJ,sub];omega
 have hw:i64.wrap (d.getD x 0+1)=d.getD x 0+1:=dw (by omega) (by omega);refine⟨(((0:Nat):Int),((i+1:Nat):Int),d.set i (d.getD x 0+1),v7.drop o++[(i:Int)]),?_,?_,by show N -((i+1:Nat):Int).toNat<N -(i:Int).toNat;omega⟩;simp only[hA.1,decide_true,aj,ai,h1,Int.toNat_natCast,qq,hap,eu,hw,bf i];simp[sub];refine⟨0,i+1,F++[i],rfl,rfl,Nat.zero_le _,?_,by omega,hb.push hlt hA.1 hx (by rw[hud];exact hA.2),by rw[List.getElem?_append_left hFh];exact hx,?_⟩;rw[List.drop_zero,hq,List.drop_append_of_le_length (by omega)];simp;intro i' hi' hm;have hpush:=hb.push hlt hA.1 hx (by rw[hud];exact hA.2);by_cases e:i'=i;subst e;exact(hpush.mem i' hlt).2 (by simp);have:=hc i' (by omega) hm;exact(hpush.mem i' (by omega)).2 (List.mem_append_left _ ((hb.mem i' (by omega)).1 this));have hB:(bif decide (d.getD i 0<0)then some (a0.uses[i].any λy=>(x:Int)==y)else some false)=some false:=by
  by_cases h2:d.getD i 0<0;simp only[h2,decide_true,aj,bL];cases hc:(a0.uses[i].any λy=>x==y)with
  |false=>rfl
  |true=>
   obtain⟨y,hy,e⟩:=any_eq_true.1 hc;obtain rfl:x=y:=(by simpa using e);exact absurd ⟨h2,hy⟩ hA
  simp only[h2,decide_false,au]
 refine⟨(o,(i+1:Nat),d,v7),?_,?_,by show N -((i+1:Nat):Int).toNat<N -(i:Int).toNat;omega⟩;rw[hB];simp[QM (show o+(v7.length -o)=v7.length by omega),bf i];refine⟨o,i+1,F,rfl,rfl,ho,hq,by omega,hb,hx,λi' hi' hm=>?_⟩;by_cases e:i'=i;subst e;rw[hud]at hm;exact Int.not_lt.1 λh2=>hA ⟨h2,hm⟩;exact hc i' (by omega) hm;right;have hiN:i=N:=by omega
 have hFh:h<F.length:=(cZ.1 hx).1;refine⟨(o,d,v7),?_,o,F,rfl,ho,hq,?_⟩;simp only[fQ,show decide ((i:Int)<(a0.uses.length))=false from by simp;omega,au,Int.toNat_natCast,QM (show o+(v7.length -o)=v7.length by omega),aj];refine⟨hb.dl,hb.nd,hb.rg,hb.mem,hb.ub,hb.pre,hb.hd,hFh,λp y hp hy j hj hm=>?_⟩;by_cases e:p=h;subst e;rw[hx]at hy;cases hy;exact hc j (by omega) hm;exact hb.cl p y (by omega) hy j hj hm
def BO(us:List (List Int))(N to h:Nat):(Int×List Int×List Int)->Prop
 |(v1,d,v3)=>∃(o:Nat)(F:List Nat),v1=o/\o<=v3.length/\v3.drop o=(F.drop h).map (λ k:Nat=>(k:Int))/\BI us N to h d F
theorem aoW{n N to h:Nat}{a0:qi}{r1:List Int}(hg:Z4 a0.uses N)(hr:r1.length=N)(hn:4000001<=n)(v:Int×List Int×List Int)(hv:BO a0.uses N to h v):
 (∃ v',dU n a0 r1 v=some (.inl v')/\BO a0.uses N to (h+1) v')\/∃d,dU n a0 r1 v=some (.inr d)/\∃F,BI a0.uses N to F.length d F:=by
 obtain⟨v1,d,v3⟩:=v;obtain⟨o,F,rfl,ho,hq,hb⟩:=hv;have hlen:v3.length -o=F.length -h:=by have:=congrArg List.length hq;simpa using this
 by_cases hlt:h<F.length;left;obtain⟨x,hx⟩:∃x,F[h]? =some x:=⟨_,dF hlt⟩;have hox:v3[o]? =some x:=by have:=congrArg (λ l=>l[0]?) hq;simpa[hx]using this
 have hdr:v3.drop (o+1)=(F.drop (h+1)).map (λ k:Nat=>(k:Int)):=by have:=congrArg (λ l=>l.drop 1) hq;simpa using this
 obtain⟨q,hq1,o2,F2,hq2,hq3,hq4,hq5⟩:=adh (BS a0.uses N to h x) (λ q:Int×List Int×List Int=>∃(o:Nat)(F:List Nat),q.1=o/\o<=q.2.2.length/\q.2.2.drop o=(F.drop (h+1)).map (λ k:Nat=>(k:Int))/\BI a0.uses N to (h+1) q.2.1 F)
  (λ v=>N -v.2.1.toNat) (aoV (r1:=r1) hg hr hn) n ((o+1:Nat),0,d,v3) ⟨o+1,0,F,rfl,rfl,by omega,hdr,Nat.zero_le _,hb,hx,λi' hi'=>absurd hi' (Nat.not_lt_zero _)⟩ (by have:=hg.2.1;simp;omega)
 obtain⟨w1,w2,w3⟩:=q;simp only at hq2 hq3 hq4 hq5;subst hq2;refine⟨(o2,w2,w3),?_,o2,F2,rfl,hq3,hq4,hq5⟩;have hat:bj v3 (o+0)=some (x:Int):=by rw[Int.add_zero,ES];exact hox
 simp only[dU,Int.toNat_natCast,show decide (((v3.length -o:Nat):Int)>0)=true from by simp;omega,aj,show cP 0 (v3.length -o)=true from by simp[cP];omega,hat,ai,
  vT (show 0<=1 by omega) (show (1:Int)<=(v3.length -o:Nat)by omega) (Int.le_refl _),QM (show o+1+(v3.length -o -1)=v3.length by omega),hq1,QM (show o2+(w3.length -o2)=w3.length by omega)]
 right;have hhF:h=F.length:=by have:=hb.hh;omega
 refine⟨d,?_,F,hhF ▸ hb⟩;simp only[dU,Int.toNat_natCast,show decide (((v3.length -o:Nat):Int)>0)=false from by simp;omega,au]
theorem fq{V O:Type}{step:V->Option (V⊕O)}(Inv:Nat->V->Prop)(Post:O->Prop)(K:Nat)(hK:∀k v,Inv k v->k<=K)
 (h:∀k v,Inv k v->(∃ v',step v=some (.inl v')/\Inv (k+1) v')\/∃o,step v=some (.inr o)/\Post o):∀(n k:Nat)(v:V),Inv k v->K<n+k->∃o,iter step n v=some o/\Post o
 | 0,k,v,hi,hn=>absurd (hK k v hi) (by omega)
 |n+1,k,v,hi,hn=>by rcases h k v hi with ⟨v',h1,h2⟩ |⟨o,h1,h2⟩;rw[jL h1];exact fq Inv Post K hK h n (k+1) v' h2 (by omega);exact⟨o,fI h1,h2⟩
theorem adi{n N to:Nat}{a0:qi}(hg:Z4 a0.uses N)(hd:a0.defs.length=N)(hn:4000002<=n)(ht:to<N):∃d F,jW n a0 to=some d/\BI a0.uses N to F.length d F:=by
 have hN:=hg.2.1;have hr:rR (sub ([(-1)]:List Int) 0 1) N=some (List.replicate N (-1)):=by show(ck (decide (0<=(N:Int))&&decide ((N:Int)<=1000000000000)) (some (List.replicate (N:Int).toNat (-1))))=_;rw[show decide (0<=(N:Int))=true by simp,show decide ((N:Int)<=1000000000000)=true by simp;omega];rfl
 have hlr:(List.replicate N (-1:Int)).length=N:=List.length_replicate;have hb0:BI a0.uses N to 0 ((List.replicate N (-1:Int)).set to 0) [to]:=by
  have hto:((List.replicate N (-1:Int)).set to 0).getD to 0=0:=by simp[ht]
  refine⟨by simp,by simp,λx hx=>by simp at hx;omega,λi hi=>?_,λj x hx=>?_,λj x hx hj=>?_,⟨rfl,hto⟩,by simp,λp y hp=>absurd hp (Nat.not_lt_zero _)⟩;by_cases e:to=i;subst e;rw[hto];simp;simp[List.getElem?_set_ne e];simp[hi,Ne.symm e];cases j with
  |zero=>simp at hx;subst hx;rw[hto];simp
  |succ j=>simp at hx
  cases j with
  |zero=>omega
  |succ j=>simp at hx
 obtain⟨d,h1,F,h2⟩:=fq (step:=dU n a0 (List.replicate N (-1))) (λ h v=>BO a0.uses N to h v) (λ d=>∃F,BI a0.uses N to F.length d F) N (λ h v ⟨_,_,_,_,_,hb⟩=>Nat.le_trans hb.hh hb.len) (λ h v hv=>aoW (n:=n) (r1:=List.replicate N (-1)) hg hlr (by omega) v hv) n 0
  ((0:Nat),(List.replicate N (-1:Int)).set to 0,[to]) ⟨0,[to],rfl,Nat.zero_le _,rfl,hb0⟩ (by omega)
 refine⟨d,F,?_,h2⟩;have hdl:d.length=N:=h2.dl;have h1':iter (dU n a0 (List.replicate N (-1))) n (0,(List.replicate N (-1:Int)).set to 0,[to])=some d:=h1;simp only[jW,hd,hr,ai,hlr,aZ ht,bK (show to<(List.replicate N (-1:Int)).length by omega),aj,show(((0:Nat):Int)+to).toNat=to by omega,h1];simp[sub,hdl];exact take_of_length_le (Nat.le_of_eq hdl)
def Nr(d:List Int)(l:List Int)(w:Int):Prop:=
 (w= -1/\∀k∈l,d.getD k.toNat 0<0)\/(w∈l/\0<=d.getD w.toNat 0/\∀k∈l,0<=d.getD k.toNat 0->d.getD w.toNat 0<=d.getD k.toNat 0)
theorem Nr.snoc{d l:List Int}{w k:Int}(h:Nr d l w)(hk:0<=k)(hl:∀x∈l,0<=x):Nr d (l++[k]) (if 0<=d.getD k.toNat 0/\(w<0\/d.getD k.toNat 0<d.getD w.toNat 0)then k else w):=by split;rename_i h1;refine .inr ⟨by simp,h1.1,λz hz h0=>?_⟩;rw[bP]at hz;rcases hz with hz |hz;rcases h with ⟨rfl,h⟩ |⟨hw,hw0,h⟩;have:=h z hz;omega;have h2:=h z hz h0;have:=hl w hw;rcases h1.2 with h3 |h3<;>omega;simp at hz;subst hz;exact Int.le_refl _;rename_i h1;rcases h with ⟨rfl,h⟩ |⟨hw,hw0,h⟩;refine .inl ⟨rfl,λz hz=>?_⟩;rw[bP]at hz;rcases hz with hz |hz;exact h z hz;simp at hz;subst hz;exact Int.not_le.1 λh2=>h1 ⟨h2,.inl (by omega)⟩;refine .inr ⟨List.mem_append_left _ hw,hw0,λz hz h0=>?_⟩;rw[bP]at hz;rcases hz with hz |hz;exact h z hz h0;simp at hz;subst hz;exact Int.not_lt.1 λh2=>h1 ⟨h0,.inr h2⟩
theorem aoX{n N:Nat}{d l:List Int}(hd:d.length=N)(hl:l.length<=4000000)(hr:∀k∈l,0<=k/\k<N)(hn:4000001<=n):∃w,iter (iL d l) n (-1,0)=some w/\Nr d l w:=by
 refine fq (λ i (v:Int×Int)=>i<=l.length/\v.2=i/\Nr d (l.take i) v.1) (λ w=>Nr d l w) l.length (λ k v h=>h.1) ?_ n 0 _ ⟨Nat.zero_le _,rfl,.inl ⟨rfl,by simp⟩⟩ (by omega);rintro i ⟨v3,v4⟩ ⟨hi,rfl,hN⟩;by_cases hlt:i<l.length;left;have hk:=hr l[i] (getElem_mem hlt);obtain⟨k,hk2⟩:=Int.eq_ofNat_of_zero_le hk.1;have hkN:k<d.length:=by omega
 have Ln:d[k]=d.getD k 0:=by simp[hkN]
 have htk:l.take (i+1)=l.take i++[l[i]]:=by rw[List.take_add_one,dF hlt];rfl
 have hlk:∀x∈l.take i,0<=x:=λx hx=>(hr x (List.mem_of_mem_take hx)).1;have hsn:=hN.snoc hk.1 hlk;refine⟨(if 0<=d.getD (l[i]).toNat 0/\(v3<0\/d.getD (l[i]).toNat 0<d.getD v3.toNat 0)then l[i]else v3,(i+1:Nat)),?_,hlt,rfl,by rw[htk];exact hsn⟩;simp only[iL,show decide ((i:Int)<l.length)=true from by simp;omega,aj,aQ hlt,ai,hk2,aZ hkN,bK hkN,Ln,Int.toNat_natCast,bf i];by_cases h0:0<=d.getD k 0;by_cases h1:v3<0;simp only[h0,h1,decide_true,aj,ai,true_and,true_or,if_true];have hv:v3∈l.take i:=by rcases hN with ⟨rfl,_⟩ |⟨h,_⟩;omega;exact h
 have C7:=hr v3 (List.mem_of_mem_take hv);obtain⟨z,hz⟩:=Int.eq_ofNat_of_zero_le C7.1;subst hz;have Hx:z<d.length:=by omega
 have hgz:d[z]=d.getD z 0:=by simp[Hx]
 simp only[h0,decide_true,aj,h1,decide_false,au,aZ Hx,bK Hx,ai,hgz,Int.toNat_natCast,true_and,false_or];by_cases h2:d.getD k 0<d.getD z 0;simp only[h2,decide_true,aj,if_true,ai];simp only[h2,decide_false,au,if_false,ai];simp only[h0,decide_false,au,ai,false_and,if_false];right;refine⟨v3,?_,?_⟩;simp only[iL,show decide ((i:Int)<l.length)=false from by simp;omega,au];rw[take_of_length_le (by omega)]at hN;exact hN
theorem BI.step{us:List (List Int)}{N to h:Nat}{d:List Int}{F:List Nat}(b:BI us N to h d F){x:Nat}(hx:x<N)(hne:x≠to)(h0:0<=d.getD x 0):∃y:Nat,(y:Int)∈us.getD x []/\d.getD y 0=d.getD x 0 -1/\0<=d.getD y 0:=by
 obtain⟨j,hj,hjx⟩:=mem_iff_getElem.1 ((b.mem x hx).1 h0);have hj':F[j]? =some x:=by rw[dF hj,hjx]
 have hj0:0<j:=by
  cases j with
  |zero=>rw[b.hd.1]at hj';cases hj';exact absurd rfl hne
  |succ j=>exact Nat.succ_pos _
 have⟨p,y,_,h2,h3,h4⟩:=b.pre j x hj' hj0;have hyF:=bT h2;exact⟨y,h3,h4,(b.mem y (b.rg y hyF)).2 hyF⟩
theorem akY{n N fr:Nat}{a1:List gK}{us:List (List Int)}(hg:Z4 us N)(hd:a1.length=N)(hn:4000003<=n)(hf:fr<N):∃d F c,BI us N fr F.length d F/\jY n fr a1 us=some (a1,us,c)/\c.length<=N+1/\(c=[]->∀k∈us.getD fr [],d.getD k.toNat 0<0):=by
 obtain⟨d,F,hdi,hb⟩:=adi (n:=n) (a0:=qi.mk a1 us) hg hd (by omega) hf;have hN:=hg.2.1;have AW:=hg.1;have hmx:maxLen=9223372036854775807:=rfl;have hloop:∃o,iter (lC n fr a1 us d) n (fr,[])=some o/\∃c,o= .inr (a1,us,c)/\c.length<=N+1/\(c=[]->∀k∈us.getD fr [],d.getD k.toNat 0<0):=by
  refine fq (λ k (v:Int×List ByteArray)=>∃at_:Nat,v.1=at_/\at_<N/\v.2.length=k/\k<=N/\((k=0/\at_=fr)\/(0<k/\at_≠fr/\0<=d.getD at_ 0/\d.getD at_ 0+k<=N))) _ N (λ k v ⟨_,_,_,_,h,_⟩=>h) ?_ n 0 _ ⟨fr,rfl,hf,rfl,Nat.zero_le _,.inl ⟨rfl,rfl⟩⟩ (by omega);rintro k ⟨v1,v2⟩ ⟨x,rfl,hx,hv2,hkN,hst⟩;simp at hv2;have hxa:x<a1.length:=by omega
  have hxu:x<us.length:=by omega
  have hl:=hg.2.2 us[x] (getElem_mem hxu);obtain⟨w,hw,hnr⟩:=aoX (n:=n) (d:=d) (l:=us[x]) hb.dl hl.1 hl.2 (by omega);have hgu:us.getD x []=us[x]:=by simp[hxu]
  have hap:bJ v2.length v2.length (sub [a1[x].name] 0 1).length 1 16=true:=by simp[bJ,sub];omega
  simp only[lC,aQ hxa,aQ hxu,ai,hap,aj,eu,hw];have hsl:(v2++sub [a1[x].name] 0 1).length=k+1:=by simp[sub,hv2]
  have hne:((v2++sub [a1[x].name] 0 1).length==0)=false:=by rw[hsl];simp
  rcases hnr with ⟨rfl,hno⟩ |⟨hwm,hw0,hmin⟩;right;refine⟨.inr (a1,us,[]),by simp,[],rfl,by simp,λ_=>?_⟩;rcases hst with ⟨_,rfl⟩ |⟨_,Wr,hx0,_⟩;rw[hgu];exact hno;have⟨y,hy,_,hy0⟩:=hb.step hx Wr hx0;have hy':(y:Int)∈us[x]:=by rw[<- hgu];exact hy
  have:=hno _ hy';simp only[Int.toNat_natCast]at this;omega;have hwr:=hl.2 w hwm;obtain⟨z,rfl⟩:=Int.eq_ofNat_of_zero_le hwr.1;simp only[Int.toNat_natCast]at hw0 hmin;by_cases hzf:z=fr;right;subst hzf;refine⟨.inr (a1,us,v2++sub [a1[x].name] 0 1),?_,_,rfl,by omega,λh=>by rw[h]at hsl;simp at hsl⟩;simp only[show decide ((z:Int)<0)=false from by simp,au,beq_self_eq_true,aj,hne,Bool.not_false,Bool.true_and,aH,Option.map_some];left;have Hx:z<N:=by omega
  have hb1:d.getD z 0+(k+1:Nat)<=N:=by rcases hst with ⟨hk0,rfl⟩ |⟨_,Wr,hx0,hle⟩;have hzF:=(hb.mem z Hx).1 hw0;obtain⟨j,hj,hjz⟩:=mem_iff_getElem.1 hzF;have h3:=hb.ub j z (by rw[dF hj,hjz]);have:=hb.len;omega;have⟨y,hy,hyd,hy0⟩:=hb.step hx Wr hx0;have:=hmin y (by rw[<- hgu];exact hy) (by simpa using hy0);simp only[Int.toNat_natCast]at this;omega
  refine⟨(z,v2++sub [a1[x].name] 0 1),?_,z,rfl,Hx,hsl,by omega,.inr ⟨Nat.succ_pos _,hzf,hw0,hb1⟩⟩;simp[show decide ((z:Int)<0)=false from by simp,show((z:Int)==fr)=false from by simp;omega]
 obtain⟨o,h1,c,rfl,h2⟩:=hloop;refine⟨d,F,c,hb,?_,h2⟩;simp only[jY,hdi,ai,h1];simp
theorem adj(a b:ByteArray):∃r,oC a b=some r:=by simp[oC,cmp_isNaN_string];cases (!a.toList==a.toList)<;>cases (!b.toList==b.toList)<;>cases WB a b<;>cases (a.toList==b.toList)<;>exact⟨_,rfl⟩
theorem adk{a b:List ByteArray}(ha:a.length<=5000000)(hn:5000001<=n):∃r,mG n a b=some r:=by
 obtain⟨o,h,_⟩:=fq (step:=mF a b) (λ i v=>v=i/\i<=a.length) (λ _=>True) a.length (λ k v h=>h.2) (by
  rintro i v ⟨rfl,hi⟩;by_cases hlt:i<a.length;simp only[mF,show decide ((i:Int)<a.length)=true from by simp;omega,aj,aQ hlt,ai];by_cases hb:i<b.length;have⟨r,hr⟩:=adj a[i] b[i];simp only[show decide ((i:Int)>=b.length)=false from by simp;omega,au,aQ hb,ai,hr];cases hr0:(r !=0)with
  |true=>exact .inr ⟨_,rfl,trivial⟩
  |false=>exact .inl ⟨_,rfl,by rw[aL (by omega)],by omega⟩
  simp only[show decide ((i:Int)>=b.length)=true from by simp;omega,aj];exact .inr ⟨_,rfl,trivial⟩;simp only[mF,show decide ((i:Int)<a.length)=false from by simp;omega,au];exact .inr ⟨_,rfl,trivial⟩) n 0 0 ⟨rfl,Nat.zero_le _⟩ (by omega)
 simp only[mG,h];cases o with
 |inl u=>cases u;simp only[iC];cases decide ((a.length:Int)<b.length)<;>exact⟨_,rfl⟩
 |inr r=>exact⟨r,by simp⟩
def ue(us:List (List Int))(N j:Nat):Prop:=∃d F,BI us N j F.length d F/\∀k∈us.getD j [],d.getD k.toNat 0<0
theorem afw{n N:Nat}{a0:List gK}{us:List (List Int)}(hg:Z4 us N)(hd:a0.length=N)(hn:5000003<=n):∃c,jc n a0 us=some (a0,us,c)/\(c=[]->∀j,j<N->ue us N j)/\c.length<=N+1:=by
 have hN:=hg.2.1
 obtain⟨o,h1,c,rfl,h2⟩:=fq (step:=gX n a0) (λ i (v:Int×List gK×List (List Int)×List ByteArray)=>∃c,v=((i:Int),a0,us,c)/\i<=N/\c.length<=N+1/\(c=[]->∀j,j<i->ue us N j))
  (λ o=>∃c,o=(a0,us,c)/\(c=[]->∀j,j<N->ue us N j)/\c.length<=N+1) N (λ k v ⟨_,_,h,_⟩=>h) (by
  rintro i v ⟨c,rfl,hi,hcl,hc⟩;by_cases hlt:i<N;left;obtain⟨d,F,c2,hb,hci,ZD,hc2⟩:=akY (n:=n) (a1:=a0) hg hd (by omega) hlt;simp only[gX,show decide ((i:Int)<a0.length)=true from by simp;omega,aj,hci,ai,bf i,dO,aH];have hfin:∀c':List ByteArray,c'.length<=N+1->(c'=[]->c=[]/\c2=[])->∃c'',(((i+1:Nat):Int),a0,us,c')=(((i+1:Nat):Int),a0,us,c'')/\i+1<=N/\c''.length<=N+1/\(c''=[]->∀j,j<i+1->ue us N j):=λc' hl' he=>
   ⟨c',rfl,hlt,hl',λe j hj=>by have⟨e1,e2⟩:=he e;by_cases h:j=i;subst h;exact⟨d,F,hb,hc2 e2⟩;exact hc e1 j (by omega)⟩
  obtain⟨r,hr⟩:=adk (n:=n) (a:=c2) (b:=c) (by omega) (by omega);cases h0:(c2.length==0)with
  |true=>
   have e2:c2=[]:=List.eq_nil_of_length_eq_zero (by simpa using h0);exact⟨_,by simp,hfin c hcl λe=>⟨e,e2⟩⟩
  |false=>
   have hne:c2≠[]:=λe=>(by rw[e]at h0;simp at h0);simp only[au,ai];have key:∃b,(bif c.length==0 then some true else bif decide ((c2.length:Int)<c.length)then some true else bif(c2.length:Int)==c.length then(mG n c2 c).bind λr2=>some (decide (r2<0))else some false)=some b/\(c.length=0->b=true):=by
    cases h3:(c.length==0)with
    |true=>exact⟨true,rfl,λ_=>rfl⟩
    |false=>
     have hcn:c.length≠0:=(by simpa using h3);simp only[au,hr,ai];cases decide ((c2.length:Int)<c.length)<;>cases ((c2.length:Int)==c.length)<;>exact⟨_,rfl,λe=>absurd e hcn⟩
   obtain⟨b,hb1,hb2⟩:=key;rw[hb1];cases b with
   |true=>exact⟨_,by simp,hfin c2 ZD λe=>absurd e hne⟩
   |false=>exact⟨_,by simp,hfin c hcl λe=>by rw[e]at hb2;exact absurd (hb2 rfl) (by simp)⟩
  right;refine⟨(a0,us,c),?_,c,rfl,λe j hj=>hc e j (by omega),hcl⟩;simp only[gX,show decide ((i:Int)<a0.length)=false from by simp;omega,au,aH,aj]) n 0 (0,a0,us,[]) ⟨[],rfl,Nat.zero_le _,by simp,λ_ j hj=>absurd hj (Nat.not_lt_zero _)⟩ (by omega)
 exact⟨c,by simp[jc,h1],h2⟩
theorem BI.back{us:List (List Int)}{N to:Nat}{d:List Int}{F:List Nat}(b:BI us N to F.length d F){i y:Nat}(hi:i<N)(hy:y<N)(h:(y:Int)∈us.getD i [])(h0:0<=d.getD y 0):0<=d.getD i 0:=by obtain⟨j,hj,hjy⟩:=mem_iff_getElem.1 ((b.mem y hy).1 h0);exact b.cl j y hj (by rw[dF hj,hjy]) i hi h
theorem aoY{us:List (List Int)}{N:Nat}(hg:Z4 us N)(hf:∀j,j<N->ue us N j)(done:Nat->Prop){i0:Nat}(h0:i0<N)(hd0:¬done i0):∃i,i<N/\¬done i/\∀k∈us.getD i [],done k.toNat:=by
 refine vL λhno=>?_;have hstep:∀i:{i:Nat // i<N/\¬done i},∃k:{k:Nat // k<N/\¬done k},(k.1:Int)∈us.getD i.1 []:=by
  rintro⟨i,hi,hnd⟩;refine vL λh=>hno ⟨i,hi,hnd,λk hk=>vL λhkd=>h ?_⟩;have hl:us.getD i []∈us:=by have:i<us.length:=(by rw[hg.1];exact hi);simp[this]
  have hr:=(hg.2.2 _ hl).2 k hk;exact⟨⟨k.toNat,by omega,hkd⟩,by show(k.toNat:Int)∈_;rw[Int.toNat_of_nonneg hr.1];exact hk⟩
 obtain⟨f,hfs⟩:=Classical.axiomOfChoice hstep
 let g:Nat->{i:Nat // i<N/\¬done i}:=λj=>Nat.rec ⟨i0,h0,hd0⟩ (λ _ x=>f x) j
 have hgs:∀j,((g (j+1)).1:Int)∈us.getD (g j).1 []:=λj=>hfs (g j);have hnd:¬((List.range (N+1)).map λj=>(g j).1).Nodup:=λh=>by
  have:=xK N _ h λy hy=>by obtain⟨j,_,rfl⟩:=mem_map.1 hy;exact(g j).2.1
  rw[length_map,List.length_range]at this;omega
 obtain⟨a,b,hab,he⟩:∃a b,a<b/\(g a).1=(g b).1:=by refine vL λh=>hnd ?_;rw[List.nodup_iff_pairwise_ne,List.pairwise_map];exact List.pairwise_lt_range.imp λ{x y} hxy e=>h ⟨x,y,hxy,e⟩
 obtain⟨d,F,hb,hneg⟩:=hf _ (g a).2.1;have hall:∀c,a<b -c->c<b -a->0<=d.getD (g (b -c)).1 0:=by
  intro c
  induction c with
  |zero=>intro _ _;rw[Nat.sub_zero,<- he,hb.hd.2];exact Int.le_refl _
  |succ c ih=>
   intro h1 h2;have:=ih (by omega) (by omega);have e:b -c=b -(c+1)+1:=(by omega);rw[e]at this;exact hb.back (g (b -(c+1))).2.1 (g (b -(c+1)+1)).2.1 (hgs (b -(c+1))) this
 have h1:=hall (b -a -1) (by omega) (by omega);have e:b -(b -a -1)=a+1:=by omega
 rw[e]at h1;have h2:=hneg _ (hgs a);simp only[Int.toNat_natCast]at h2;omega
theorem afx{n N:Nat}{l:List Int}{done:List Bool}(hd:done.length=N)(hl:l.length<=4000000)(hr:∀k∈l,0<=k/\k<N)(hn:4000001<=n):
 ∃r,iA n l done=some (r,done)/\(r=false↔∀k∈l,done.getD k.toNat false=true):=by
 obtain⟨o,h1,h2⟩:=fq (step:=jX l) (λ i (v:Int×List Bool)=>v=((i:Int),done)/\i<=l.length/\∀k∈l.take i,done.getD k.toNat false=true)
  (λ o=>(o= .inl done/\∀k∈l,done.getD k.toNat false=true)\/∃i:Nat,o= .inr (i,done)/\∃k∈l,done.getD k.toNat false=false) l.length (λ k v h=>h.2.1) (by
  rintro i v ⟨rfl,hi,hall⟩;by_cases hlt:i<l.length;have hk:=hr l[i] (getElem_mem hlt);obtain⟨k,hk2⟩:=Int.eq_ofNat_of_zero_le hk.1;have hkN:k<done.length:=by omega
  have Ln:done[k]=done.getD k false:=by simp[hkN]
  have htk:l.take (i+1)=l.take i++[l[i]]:=by rw[List.take_add_one,dF hlt];rfl
  simp only[jX,show decide ((i:Int)<l.length)=true from by simp;omega,aj,aQ hlt,ai,aH,hk2,ny,aZ hkN,bK hkN,Ln];cases hdk:done.getD k false with
  |true=>
   refine .inl ⟨_,by simp;rfl,by rw[aL (by omega)],hlt,λz hz=>?_⟩;rw[htk,bP]at hz;rcases hz with hz |hz;exact hall z hz;simp at hz;rw[hz,hk2];simpa using hdk
  |false=>exact .inr ⟨_,by simp,.inr ⟨i,rfl,l[i],getElem_mem hlt,by rw[hk2];simpa using hdk⟩⟩
  refine .inr ⟨.inl done,?_,.inl ⟨rfl,by rw[take_of_length_le (by omega)]at hall;exact hall⟩⟩;simp only[jX,show decide ((i:Int)<l.length)=false from by simp;omega,au,aH,aj]) n 0 (0,done) ⟨rfl,Nat.zero_le _,by simp⟩ (by omega)
 rcases h2 with ⟨rfl,h2⟩ |⟨i,rfl,k,hk,hkd⟩;exact⟨false,by simp[iA,nK,h1],λ_=>h2,λ_=>rfl⟩;refine⟨true,by simp[iA,nK,h1],λh=>(by cases h),λh=>?_⟩;rw[h k hk]at hkd;cases hkd
def PB(us:List (List Int))(N:Nat)(done:List Bool)(i:Nat)(w:Int):Prop:=
 (w= -1/\∀j,j<i->¬(done.getD j false=false/\∀k∈us.getD j [],done.getD k.toNat false=true))\/∃j:Nat,w=j/\j<i/\done.getD j false=false
theorem ani{n N:Nat}{a0:qi}{done:List Bool}(hg:Z4 a0.uses N)(hd:a0.defs.length=N)(hl:done.length=N)(hn:4000002<=n):∃w,iter (iQ n a0) n (-1,0,done)=some (w,done)/\PB a0.uses N done N w:=by
 have hN:=hg.2.1;have AW:=hg.1;obtain⟨o,h1,w,rfl,h2⟩:=fq (step:=iQ n a0) (λ i (v:Int×Int×List Bool)=>∃w,v=(w,(i:Int),done)/\i<=N/\PB a0.uses N done i w) (λ o=>∃w,o=(w,done)/\PB a0.uses N done N w) N (λ k v ⟨_,_,h,_⟩=>h) (by
  rintro i v ⟨w,rfl,hi,hw⟩;by_cases hlt:i<N;left;have hiu:i<a0.uses.length:=by omega
  have hid:i<a0.defs.length:=by omega
  have hib:i<done.length:=by omega
  have hl2:=hg.2.2 a0.uses[i] (getElem_mem hiu);obtain⟨r,hr1,hr2⟩:=afx (n:=n) hl hl2.1 hl2.2 (by omega);have hgi:a0.uses.getD i []=a0.uses[i]:=by simp[hiu]
  have hdi:done[i]=done.getD i false:=by simp[hib]
  simp only[iQ,show decide ((i:Int)<a0.uses.length)=true from by simp;omega,aj,aQ hiu,ai,aH,hr1,aZ hib,bK hib,hdi,bf i];have keep:(done.getD i false=true\/r=true)->PB a0.uses N done (i+1) w:=by intro hno;rcases hw with ⟨rfl,hw⟩ |⟨j,rfl,hj,hw⟩;refine .inl ⟨rfl,λj hj h=>?_⟩;by_cases e:j=i;subst e;rw[hgi]at h;rcases hno with h3 |h3;rw[h3]at h;exact absurd h.1 (by simp);have:=hr2.2 h.2;rw[h3]at this;cases this;exact hw j (by omega) h;exact .inr ⟨j,rfl,by omega,hw⟩
  cases hdn:done.getD i false with
  |true=>exact⟨_,by simp,w,rfl,hlt,keep (.inl hdn)⟩
  |false=>
   cases r with
   |true=>exact⟨_,by simp,w,rfl,hlt,keep (.inr rfl)⟩
   |false=>
    have al:PB a0.uses N done (i+1) i:= .inr ⟨i,rfl,by omega,hdn⟩;rcases hw with ⟨rfl,hw⟩ |⟨j,rfl,hj,hw⟩;exact⟨_,by simp,_,rfl,hlt,al⟩;have hjd:j<a0.defs.length:=(by omega);simp only[Bool.not_false,aj,show decide (j<0)=false from by simp,au,aQ hid,aQ hjd,ai];cases WB a0.defs[i].name a0.defs[j].name with
    |true=>exact⟨_,rfl,_,rfl,hlt,al⟩
    |false=>exact⟨_,rfl,_,rfl,hlt,.inr ⟨j,rfl,by omega,hw⟩⟩
  right;have hiN:i=N:=by omega
  refine⟨(w,done),?_,w,rfl,hiN ▸ hw⟩;simp only[iQ,show decide ((i:Int)<a0.uses.length)=false from by simp;omega,au,aH,aj]) n 0 (-1,0,done) ⟨_,rfl,Nat.zero_le _,.inl ⟨rfl,λj hj=>absurd hj (Nat.not_lt_zero _)⟩⟩ (by omega)
 exact⟨w,h1,h2⟩
theorem anj{n N:Nat}{a0:qi}(hg:Z4 a0.uses N)(hd:a0.defs.length=N)(hf:∀j,j<N->ue a0.uses N j)(hn:4000002<=n):∃l,oD n a0=some l/\l.length=N/\∀k∈l,0<=k/\k<N:=by
 have hN:=hg.2.1;have hmx:maxLen=9223372036854775807:=rfl
 obtain⟨o,h1,h2⟩:=fq (step:=kV n a0) (λ c (v:Int×List Int×List Bool)=>∃out done,v=((c:Int),out,done)/\c<=N/\out.length=c/\(∀ k∈out,0<=k/\k<N)/\done.length=N/\done.count false=N -c)
  (λ o=>o.length=N/\∀k∈o,0<=k/\k<N) N (λ k v ⟨_,_,_,h,_⟩=>h) (by
  rintro c v ⟨out,done,rfl,hc,hol,hor,hdl,hcf⟩;by_cases hlt:c<N;left;have⟨w,hw1,hw2⟩:=ani (n:=n) hg hd hdl hn;have hopen:∃i0,i0<N/\done.getD i0 false=false:=by have hm:false∈done:=List.count_pos_iff.1 (by omega);obtain⟨i0,h0,e⟩:=mem_iff_getElem.1 hm;exact⟨i0,by omega,by simp[h0,e]⟩
  obtain⟨i0,h0,h0d⟩:=hopen;obtain⟨i,hi,hid,hia⟩:=aoY hg hf (λ j=>done.getD j false=true) h0 (by rw[h0d];simp);rcases hw2 with ⟨rfl,hw2⟩ |⟨j,rfl,hj,hjd⟩;exact absurd ⟨Bool.eq_false_iff.2 hid,hia⟩ (hw2 i hi);have hjl:j<done.length:=by omega
  have hap:bJ out.length out.length (sub [(j:Int)] 0 1).length 1 8=true:=by simp[bJ,sub];omega
  have hset:(done.set j true).length=done.length:=by simp
  refine⟨((c+1:Nat),out++[(j:Int)],done.set j true),?_,_,_,rfl,hlt,by simp[hol],?_,by simp[hdl],?_⟩;simp only[kV,show decide ((c:Int)<a0.defs.length)=true from by simp;omega,aj,aH,hw1,ai,aZ hjl,bK hjl,hap,eu,bf c,show(((0:Nat):Int)+j).toNat=j by omega,QM hset.symm];simp[sub];intro k hk;rw[bP]at hk;rcases hk with hk |hk;exact hor k hk;simp at hk;subst hk;omega;have hjf:done[j]=false:=by simpa[List.getD,hjl]using hjd
  rw[List.count_set hjl,hcf,hjf];simp;omega;right;have:c=N:=by omega
  refine⟨out,?_,by omega,hor⟩;simp only[kV,show decide ((c:Int)<a0.defs.length)=false from by simp;omega,au,aH,aj]) n 0 (0,[],List.replicate N false) ⟨[],_,rfl,Nat.zero_le _,rfl,by simp,by simp,by simp⟩ (by omega)
 refine⟨o,?_,h2⟩;have hmk:qH N 1=true:=by simp[qH];omega
 simp only[oD,hd,Int.le_refl,decide_true,Bool.true_and,show decide (0<=N)=true from by simp,hmk,aj,Int.toNat_natCast,h1,ai,dO,aH];simp
def p5(out:List aR)(s:aR):List aR:=
 match out.getLast? with
 |some q=>bif decide (s.from_<=q.to)then out.dropLast++[⟨q.from_,max q.to s.to⟩]else out++[s]
 |none=>[s]
theorem XU out (s:aR):(p5 out s).length<=out.length+1:=by
 unfold p5;cases out.getLast? with
 |none=>simp
 |some q=>simp;cases decide (s.from_<=q.to)<;>simp<;>omega
theorem ah3 o (q s:aR):p5 (o++[q]) s=bif decide (s.from_<=q.to)then o++[⟨q.from_,max q.to s.to⟩]else o++[q]++[s]:=by simp[p5]
abbrev Hc(s:aR):Prop:=s.from_<s.to
def js(l:List aR)(y:Int):Bool:=l.any λs=>decide (s.from_<=y)&&decide (y<s.to)
def Can(l:List aR):Prop:=l.Pairwise (λ a b=>a.to<b.from_)/\∀s∈l,Hc s
theorem O1 l y:js l y=true↔∃s∈l,s.from_<=y/\y<s.to:=by simp[js]
theorem Fz(l m:List aR) y:js (l++m) y=(js l y || js m y):=by simp[js]
theorem KA y:js [] y=false:=rfl
theorem pu(s:aR) l y:js (s::l) y=((decide (s.from_<=y)&&decide (y<s.to)) || js l y):=by simp[js]
theorem afy{l m:List aR}(h:l.Perm m) y:js l y=js m y:=by rw[fB,O1,O1];exact⟨λ ⟨s,hs,h1⟩=>⟨s,h.mem_iff.1 hs,h1⟩,λ⟨s,hs,h1⟩=>⟨s,h.mem_iff.2 hs,h1⟩⟩
theorem ajL:Can []:=⟨List.Pairwise.nil,by simp⟩
theorem ank{out:List aR}{s:aR}(hc:Can out)(hs:Hc s)(hb:∀o∈out,o.from_<=s.from_):
 Can (p5 out s)/\(∀ o∈p5 out s,o.from_<=s.from_)/\∀y,js (p5 out s) y=(js out y || js [s] y):=by rcases List.eq_nil_or_concat out with rfl |⟨o,q,rfl⟩;refine⟨⟨by simp[p5],by simp[p5];exact hs⟩,by simp[p5],λy=>by simp[p5,js]⟩;rw[List.concat_eq_append]at*;obtain⟨h1,h2⟩:=hc;rw[pairwise_append]at h1;obtain⟨p1,_,p3⟩:=h1;have hq:Hc q:=h2 q (by simp);have hqs:q.from_<=s.from_:=hb q (by simp);rw[ah3];by_cases hj:s.from_<=q.to;simp only[hj,decide_true,aj];refine⟨⟨?_,?_⟩,?_,?_⟩;rw[pairwise_append];refine⟨p1,by simp,λa ha b hb'=>?_⟩;rw[bC]at hb';subst hb';exact p3 a ha q (by simp);intro a ha;rcases bP.1 ha with ha |ha;exact h2 a (by simp[ha]);rw[bC]at ha;subst ha;show q.from_<max q.to s.to;have:q.from_<q.to:=hq;omega;intro a ha;rcases bP.1 ha with ha |ha;exact hb a (by simp[ha]);rw[bC]at ha;subst ha;exact hqs;intro y;rw[Fz,Fz,Bool.or_assoc];congr 1;simp[pu,KA];rw[fB];simp;have:q.from_<q.to:=hq;have:s.from_<s.to:=hs;omega;simp only[hj,decide_false,au];refine⟨⟨?_,?_⟩,?_,?_⟩;rw[pairwise_append];refine⟨?_,by simp,λa ha b hb'=>?_⟩;rw[pairwise_append];exact⟨p1,by simp,p3⟩;rw[bC]at hb';subst hb';rcases bP.1 ha with ha |ha;have:=p3 a ha q (by simp);have:q.from_<q.to:=hq;omega;rw[bC]at ha;subst ha;omega;intro a ha;rcases bP.1 ha with ha |ha;exact h2 a ha;rw[bC]at ha;subst ha;exact hs;intro a ha;rcases bP.1 ha with ha |ha;exact hb a ha;rw[bC]at ha;subst ha;exact Int.le_refl _;intro y;rw[Fz]
theorem Q5:∀(l out:List aR),Can out->(∀ s∈l,Hc s)->l.Pairwise (λ x y=>x.from_<=y.from_)->(∀ o∈out,∀s∈l,o.from_<=s.from_)->Can (l.foldl p5 out)/\∀y,js (l.foldl p5 out) y=(js out y || js l y)
 |[],out,hc,_,_,_=>⟨hc,λy=>by simp[KA]⟩
 |s::l,out,hc,hv,hp,hb=>by rw[pairwise_cons]at hp;obtain⟨m1,m2,m3⟩:=ank hc (hv s (by simp)) (λ o ho=>hb o ho s (by simp));obtain⟨f1,f2⟩:=Q5 l (p5 out s) m1 (λ t ht=>hv t (by simp[ht])) hp.2 (λ o ho t ht=>Int.le_trans (m2 o ho) (hp.1 t ht));refine⟨f1,λy=>?_⟩;rw[foldl_cons,f2,m3,Bool.or_assoc,<- Fz];rfl
theorem afz{a:aR}{l:List aR}(h:Can (a::l)):Can l:=⟨(pairwise_cons.1 h.1).2,λs hs=>h.2 s (by simp[hs])⟩
theorem KC{a:aR}{l:List aR}(h:Can (a::l)){y:Int}(hy:js l y=true):a.to<y:=by obtain⟨s,hs,h1,_⟩:=(O1 _ _).1 hy;have:=(pairwise_cons.1 h.1).1 s hs;omega
theorem abP{a:aR}{l:List aR}(h:Can (a::l)){y:Int}(hy:js (a::l) y=true):a.from_<=y:=by rw[pu,Bool.or_eq_true]at hy;rcases hy with hy |hy;simp at hy;exact hy.1;have:=KC h hy;have:a.from_<a.to:=h.2 a (by simp);omega
theorem XV:∀{l m:List aR},Can l->Can m->(∀ y,js l y=js m y)->l=m
 |[],[],_,_,_=>rfl
 |[],b::m,_,hm,h=>by have:=h b.from_;have hb:b.from_<b.to:=hm.2 b (by simp);rw[KA,pu]at this;simp[hb]at this
 |a::l,[],hl,_,h=>by have:=h a.from_;have ha:a.from_<a.to:=hl.2 a (by simp);rw[KA,pu]at this;simp[ha]at this
 |a::l,b::m,hl,hm,h=>by
  have ha:a.from_<a.to:=hl.2 a (by simp);have hb:b.from_<b.to:=hm.2 b (by simp);have ina:js (a::l) a.from_=true:=by rw[pu];simp[ha]
  have Wg:js (b::m) b.from_=true:=by rw[pu];simp[hb]
  have e1:a.from_=b.from_:=by have h1:=abP hm (by rw[<- h];exact ina);have h2:=abP hl (by rw[h];exact Wg);omega
  have nl:∀(c:aR) k,Can (c::k)->js (c::k) c.to=false:=by
   intro c k hk;cases hc:js (c::k) c.to with
   |false=>rfl
   |true=>
    rw[pu,Bool.or_eq_true]at hc;rcases hc with hc |hc;simp at hc;have:=KC hk hc;omega
  have e2:a.to=b.to:=by rcases Int.lt_trichotomy a.to b.to with hlt |he |hlt;have h1:=nl a l hl;rw[h,pu]at h1;simp at h1;omega;exact he;have h1:=nl b m hm;rw[<- h,pu]at h1;simp at h1;omega
  have e:a=b:=by cases a;cases b;simp at e1 e2;rw[e1,e2]
  subst e;rw[XV (afz hl) (afz hm) λy=>?_];have hy:=h y;rw[pu,pu]at hy;cases h1:js l y with
  |true=>
   have:=KC hl h1;have z:(decide (a.from_<=y)&&decide (y<a.to))=false:=(by rw[Bool.and_eq_false_iff,fF,fF];omega);rw[z,h1,Bool.false_or,Bool.false_or]at hy;rw[<- hy]
  |false=>
   cases h2:js m y with
   |false=>rfl
   |true=>
    have:=KC hm h2;have z:(decide (a.from_<=y)&&decide (y<a.to))=false:=(by rw[Bool.and_eq_false_iff,fF,fF];omega);rw[z,h1,h2]at hy;simp at hy
def G4(l:List aR):List aR:=(kr uA l).foldl p5 []
theorem anl{l:List aR}(h:l.Pairwise λx y=>uA y x=false):l.Pairwise λx y=>x.from_<=y.from_:=
 h.imp λ{x y} hxy=>by simp at hxy;omega
theorem abQ{l:List aR}(h:∀s∈l,Hc s):Can (G4 l)/\∀y,js (G4 l) y=js l y:=by have hp:=EZ uA l;obtain⟨h1,h2⟩:=Q5 (kr uA l) [] ajL (λ s hs=>h s (hp.mem_iff.1 hs)) (anl (amM OZ l)) (by simp);exact⟨h1,λy=>by rw[G4,h2,KA,Bool.false_or,afy hp]⟩
theorem akZ{l:List aR}(h:∀s∈l,Hc s):(jq uA l).foldl p5 []=G4 l:=by have hp:=XD OZ l;obtain⟨h1,h2⟩:=Q5 (jq uA l) [] ajL (λ s hs=>h s (hp.mem_iff.1 hs)) (anl (ac7 OZ l)) (by simp);have⟨h3,h4⟩:=abQ h;exact XV h1 h3 λy=>by rw[h2,KA,Bool.false_or,afy hp,h4]
theorem afA l:(G4 l).length<=l.length:=by
 have:∀(ys out:List aR),(ys.foldl p5 out).length<=out.length+ys.length:=by
  intro ys
  induction ys with
  |nil=>intro out;simp
  |cons y ys ih=>
   intro out;simp;have:=ih (p5 out y);have:=XU out y;omega
 have h:=this (kr uA l) [];rw[bZ]at h;simpa[G4]using h
abbrev fx(r:ax):Bool:=decide (0<=r.x0)&&(decide (r.x0<r.x1)&&(decide (r.x1<=1048576)&&(decide (0<=r.y0)&&(decide (r.y0<r.y1)&&decide (r.y1<=1048576)))))
theorem zH(a b:Bool):(bif a then some b else some false)=some (a&&b):=by cases a<;>rfl
theorem XW(a b:Bool):(bif a then some true else some b)=some (a || b):=by cases a<;>rfl
theorem jI(r:ax):pX r=some (fx r):=by simp[pX,zH]
def kX(l:List ax)(x:Int):List aR:=(l.filter λr=>decide (r.x0<=x)&&decide (x<r.x1)).map λr=>⟨r.y0,r.y1⟩
def dm(l:List ax)(x:Int):List aR:=G4 (kX l x)
theorem Jl l x:(kX l x).length<=l.length:=by simp[kX];exact length_filter_le _ _
theorem zI l x:(dm l x).length<=l.length:=
 Nat.le_trans (afA _) (Jl l x)
theorem aq4{r:ax}(h:fx r=true):r.y0<r.y1:=by simp at h;omega
theorem XY{l:List ax}(h:∀r∈l,fx r=true) x:∀s∈kX l x,Hc s:=by intro s hs;simp[kX]at hs;obtain⟨r,⟨hr,_⟩,rfl⟩:=hs;exact aq4 (h r hr)
theorem Q6{l:List ax}{x:Int}(hl:l.length<1099511627776){n:Nat}(hn:l.length<n):iter (uD l x) n (0,[])=some (kX l x):=by
 have:=dN (l:=l) (step:=uD l x) (λ i s=>(i,s)) (λ r s=>bif decide (r.x0<=x)&&decide (x<r.x1)then s++[⟨r.y0,r.y1⟩]else s) (λ s=>s) (λ i s=>s.length<=i)
  (λ i hi s hs=>?_) (λ s hs=>by simp[uD]) n hn [] (aB _)
 rw[fL]at this;rw[this];congr 1;have gen:∀ys s,ys.foldl (λ s r=>bif decide (r.x0<=x)&&decide (x<r.x1)then s++[⟨r.y0,r.y1⟩]else s) s=s++kX ys x:=by
  intro ys
  induction ys with
  |nil=>intro s;simp[kX]
  |cons y ys ih=>
   intro s;simp[ih];cases h:(decide (y.x0<=x)&&decide (x<y.x1))with
   |true |false=>simp[kX,h]
 simpa using gen l [];have hi':decide ((i:Int)<l.length)=true:=by simpa using hi
 have ap:bJ s.length s.length (sub ([(aR.mk l[i].y0 l[i].y1)]:List aR) 0 1).length 1 16=true:=bX (n:=1) (by omega) (by simp[maxLen];omega);simp only[uD,hi',aj,aQ hi,ai,zH];cases h:(decide (l[i].x0<=x)&&decide (x<l[i].x1))with
 |true=>
  simp only[aj,ap,eu,aH,ai];refine⟨?_,by simp;omega⟩;rw[aL (by omega)];rfl
 |false=>
  simp only[au,aH,aj,ai];exact⟨by rw[aL (by omega)],by omega⟩
theorem Q7(w1 r2:List aR)(hw:w1.length=r2.length)(hl:r2.length<1099511627776)(hn:r2.length<n):iter (uE w1 r2) n (0,[])=some (r2.foldl p5 []):=by
 have:=dN (l:=r2) (step:=uE w1 r2) (λ i s=>(i,s)) (λ r s=>p5 s r) (λ s=>s) (λ i s=>s.length<=i)
  (λ i hi s hs=>?_) (λ s hs=>by simp[uE,hw]) n hn [] (aB _)
 rw[fL]at this;exact this;refine⟨?_,by have:=XU s r2[i];omega⟩;have hi':decide ((i:Int)<(w1.length:Nat))=true:=by simp;omega
 have ib:cP i w1.length=true:=aZ (by omega);have ap:bJ s.length s.length (sub ([r2[i]]:List aR) 0 1).length 1 16=true:=bX (n:=1) (by omega) (by simp[maxLen];omega);simp only[uE,hi',aj,ib,bK hi,ai];rcases List.eq_nil_or_concat s with rfl |⟨s0,q,Ks⟩;have d0:decide ((([]:List aR).length:Nat)>0)=false:=by simp
 simp;rw[aL (by omega)];rfl;rw[List.concat_eq_append]at Ks;subst Ks;have d0:decide (((((s0++[q]).length:Nat):Int))>0)=true:=by simp<;>omega
 have C0:(s0++[q]).length=s0.length+1:=by simp
 have wp:i64.wrap (((s0++[q]).length:Nat) -1)=(s0.length:Nat):=by rw[lF (by simp) (by omega),C0];rfl
 have Wk:cP (s0.length:Nat) (s0++[q]).length=true:=aZ (by omega);have g:bj (s0++[q]) ((0:Nat)+(s0.length:Nat))=some q:=by rw[EU];simp
 have z:(((0:Nat):Int)+(s0.length:Nat)).toNat=s0.length:=by simp
 have st:(s0++[q]).set s0.length (aR.mk q.from_ (max q.to r2[i].to))=s0++[⟨q.from_,max q.to r2[i].to⟩]:=by simp
 have m:p5 (s0++[q]) r2[i]=bif decide (r2[i].from_<=q.to)then s0++[⟨q.from_,max q.to r2[i].to⟩]else s0++[q]++[r2[i]]:=by simp[p5]
 simp only[d0,aj,wp,Wk,g,ai,m,z,st];cases decide (r2[i].from_<=q.to)with
 |true=>
  have e:az (s0++[q]).length (s0++[(⟨q.from_,max q.to r2[i].to⟩:aR)]).length=true:=by simp
  simp only[aj,e,ai,aH];rw[aL (by omega)]
 |false=>
  simp only[au,ap,aj,eu,aH,ai];rw[aL (by omega)];rfl
theorem adl{l:List ax}{x:Int}(hv:∀r∈l,fx r=true)(hl:l.length<1099511627776)(hn:l.length<n):Kr n l x=some (dm l x):=by have h1:=Jl l x;have h2:(jq uA (kX l x)).length=(kX l x).length:=EX OZ _;unfold Kr;simp[Q6 (x:=x) (l:=l) (by omega) (n:=n) (by omega)];rw[KM (λ a b=>if a.from_<b.from_ then -1 else if b.from_<a.from_ then 1 else 0) (λ a b=>by show yB a b=_;unfold yB;rw[kR];rfl) (λ a b=>by by_cases h1:a.from_<b.from_;simp[h1];by_cases h2:b.from_<a.from_<;>simp[h1,h2]) (by omega) (by omega)];simp;rw[Q7 _ _ h2.symm (by omega) (by omega)];simp;rw[akZ (XY hv x)];rfl
def gY(l:List ax):List Int:=ZU (l.flatMap λr=>[r.x0,r.x1])
def jJ{α:Type}(f:Int->Int->α):List Int->List α
 |a::b::l=>f a b::jJ f (b::l)
 |_=>[]
def bq(l:List ax):List bR:=jJ (λ a b=>⟨a,b,dm l a⟩) (gY l)
theorem sS{α:Type}(f:Int->Int->α):∀l,(jJ f l).length=l.length -1/\∀i (h:i+1<l.length) (h':i<(jJ f l).length),(jJ f l)[i]=f l[i] l[i+1]
 |[] |[a]=>⟨rfl,λi h=>by simp at h⟩
 |a::b::l=>by
  have⟨h1,h2⟩:=sS f (b::l);refine⟨by simp only[jJ,eD,h1];simp,λi h h'=>?_⟩;cases i with
  |zero=>rfl
  |succ i=>
   simp;exact h2 i (by simpa using h) _
theorem xL(l:List ax):(l.flatMap λr=>[r.x0,r.x1]).length=2*l.length:=by
 induction l with
 |nil=>rfl
 |cons x l ih=>simp[ih];omega
theorem pz l:(iM l).length<=l.length:=by
 match l with
 |[] |[x]=>simp[iM]
 |x::y::l=>
  have:=pz (y::l);simp[iM];cases x==y<;>simp at* <;>omega
theorem LX l:(gY l).length<=2*l.length:=by have h:=pz (kr (λ a b=>decide (a<b)) (l.flatMap λr=>[r.x0,r.x1]));rw[bZ,xL]at h;exact h
theorem Q8{l:List ax}(hl:l.length<10995116277)(hn:l.length<n):iter (uF l) n (0,[])=some (l.flatMap λr=>[r.x0,r.x1]):=by
 have:=dN (l:=l) (step:=uF l) (λ i s=>(i,s)) (λ r s=>s++[r.x0,r.x1]) (λ s=>s) (λ i s=>s.length<=2*i)
  (λ i hi s hs=>?_) (λ s hs=>by simp[uF]) n hn [] (aB _)
 rw[fL]at this;rw[this];have gen:∀(ys:List ax) s,ys.foldl (λ s r=>s++[r.x0,r.x1]) s=s++ys.flatMap λr=>[r.x0,r.x1]:=by
  intro ys
  induction ys with
  |nil=>intro s;simp
  |cons y ys ih=>intro s;simp[ih]
 congr 1;simpa using gen l [];have hi':decide ((i:Int)<(l.length:Nat))=true:=by simpa using hi
 have ap:bJ s.length s.length (sub ([l[i].x0,l[i].x1]:List Int) 0 2).length 2 8=true:=bX (n:=2) (by omega) (by simp[maxLen];omega);simp only[uF,hi',aj,aZ hi,bK hi,ai,ap,eu,aH];refine⟨?_,by simp;omega⟩;rw[aL (by omega)];rfl
theorem yM{ls:List (List ax)}(hv:∀r∈ls.flatten,fx r=true)(hl:ls.flatten.length<10995116277)(hls:ls.length<1099511627776)(hn:2*ls.flatten.length<n)(hn2:ls.length<n):pG n ls=some (bq ls.flatten):=by
 unfold pG;rw[OY (by omega) hls hn2];generalize ls.flatten=l at*;have he:=LX l;simp[Q8 (l:=l) (n:=n) (by omega) (by omega)];rw[kS (by rw[xL];omega) (by rw[xL];omega)];simp only[ai,bZ,aH,aj];rw[mV (by rw[bZ,xL];omega) (by rw[bZ,xL];omega)];simp only[ai];have hE:iM (kr pm (l.flatMap λr=>[r.x0,r.x1]))=gY l:=rfl;rw[hE];obtain⟨p1,p2⟩:=sS (λ a b=>(⟨a,b,dm l a⟩:bR)) (gY l);have key:iter (uG n l ((),gY l)) n (1,[])=some (bq l):=by
  have:=iJ (step:=uG n l ((),gY l)) (λ i=>((i+1:Nat),(bq l).take i)) (bq l).length (bq l) (λ i hi=>?_) ?_ n (by unfold bq;omega);simpa using this;have hi2:i+1<(gY l).length:=by unfold bq at hi;omega
  have d:decide (((i+1:Nat):Int)<((gY l).length:Nat))=true:=by simp;omega
  have wp:i64.wrap ((i+1:Nat) -1)=(i:Nat):=by rw[lF (by omega) (by omega)];rfl
  have ap:bJ ((bq l).take i).length ((bq l).take i).length (sub ([(bR.mk ((gY l)[i]'(by omega)) (gY l)[i+1] (dm l ((gY l)[i]'(by omega))))]:List bR) 0 1).length 1 40=true:=by refine bX (n:=1) ?_ ?_;rw[length_take];unfold bq;omega;rw[length_take];unfold bq;simp[maxLen];omega
  have tk:(bq l).take (i+1)=(bq l).take i++[⟨(gY l)[i]'(by omega),(gY l)[i+1],dm l ((gY l)[i]'(by omega))⟩]:=by rw[iR hi];congr 2;exact p2 i hi2 hi
  simp only[uG,d,aj,wp,aZ (show i<(gY l).length by omega),bK (show i<(gY l).length by omega),ai,aZ hi2,bK hi2,dO,aH,adl (l:=l) (n:=n) hv (by omega) (by omega),ap,eu];rw[aL (by omega),tk];rfl;have d:decide ((((bq l).length+1:Nat):Int)<((gY l).length:Nat))=false:=by unfold bq;simp;omega
  simp only[uG,d,au,List.take_length,aH,aj]
 rw[key];simp
def FB(x0 x1:Int)(c:List aR):List ax:=c.map λq=>⟨x0,q.from_,x1,q.to⟩
def G3(x0 x1:Int)(c:List aR):List bR->List ax
 |[]=>FB x0 x1 c
 |s::l=>if s.column=c then G3 x0 s.x1 c l else FB x0 x1 c++G3 s.x0 s.x1 s.column l
def oI:List bR->List ax
 |[]=>[]
 |s::l=>G3 s.x0 s.x1 s.column l
theorem abR x0 c:∀(l:List bR) x1 (k:Nat) (hk:k<=l.length),(∀ j (hj:j<k),(l[j]'(by omega)).column=c)->(∀ h:k<l.length,l[k].column≠c)->
 G3 x0 x1 c l=FB x0 (if h:0<k then(l[k -1]'(by omega)).x1 else x1) c++oI (l.drop k)
 |l,x1,0,_,_,h2=>by
  cases l with
  |nil=>simp[G3,oI]
  |cons s l=>
   have:=h2 (by simp);simp at this;simp[G3,oI,this]
 |[],x1,k+1,hk,_,_=>by simp at hk
 |s::l,x1,k+1,hk,h1,h2=>by
  have e0:=h1 0 (by omega);simp at e0;simp[G3,e0];rw[abR x0 c l s.x1 k (by simpa using hk) (λ j hj=>by have:=h1 (j+1) (by omega);simpa using this) (λ h=>by have:=h2 (by simpa using h);simpa using this)];simp;congr 2;by_cases hk0:0<k;simp[hk0];obtain⟨m,rfl⟩:∃m,k=m+1:=⟨k -1,by omega⟩;simp;have:k=0:=by omega
  subst this;simp
theorem Ue{l:List bR}{i k:Nat}(hi:i<l.length)(hk1:0<k)(hk:k<=l.length)(hl:l.length<10995116277)(x3:bR) out (ho:out.length<1099511627776) (hc:x3.column.length<1099511627776) (hn:x3.column.length<n):
 iter (xA l i k x3) n (0,out)=some (out++FB l[i].x0 (l[k -1]'(by omega)).x1 x3.column):=by
 have:=dN (l:=x3.column) (step:=xA l i k x3) (λ j s=>(j,s)) (λ q s=>s++[⟨l[i].x0,q.from_,(l[k -1]'(by omega)).x1,q.to⟩]) (λ s=>s) (λ j s=>s.length<=out.length+j)
  (λ j hj s hs=>?_) (λ s hs=>by simp[xA]) n hn out (aB _)
 rw[fL]at this;rw[this];have gen:∀ys s,ys.foldl (λ s q=>s++[⟨l[i].x0,q.from_,(l[k -1]'(by omega)).x1,q.to⟩]) s=s++FB l[i].x0 (l[k -1]'(by omega)).x1 ys:=by
  intro ys
  induction ys with
  |nil=>intro s;simp[FB]
  |cons y ys ih=>intro s;simp[ih];simp[FB]
 rw[gen];have hj':decide ((j:Int)<x3.column.length)=true:=by simpa using hj
 have wp:i64.wrap (k -1)=(k -1:Nat):=lF hk1 (by omega);have ap:bJ s.length s.length (sub ([(ax.mk l[i].x0 (x3.column[j]).from_ (l[k -1]'(by omega)).x1 (x3.column[j]).to)]:List ax) 0 1).length 1 32=true:=bX (n:=1) (by omega) (by simp[maxLen];omega);simp only[xA,hj',aj,aQ hj,aQ hi,wp,aQ (show k -1<l.length by omega),ai,ap,eu,aH];refine⟨?_,by simp;omega⟩;rw[aL (by omega)];rfl
theorem Tq{l:List bR}{b:Nat}(hb:b<=100000)(hl:l.length<=100000)(hc:∀s∈l,s.column.length<=b)(hn:b<n)(hn2:l.length<n):Jb n l=some (oI l):=by
 unfold Jb;simp only[length_nil,aH,aj];have main:∀(m i:Nat)(out:List ax)(k:Nat),i+m=l.length->m<k->out.length<=i*b->iter (xB n l) k ((i:Int),out)=some (out++oI (l.drop i)):=by
  intro m
  induction m using Nat.strongRecOn with
  |ind m ih=>
   intro i out k him hk ho;obtain⟨k,rfl⟩:∃j,k=j+1:=⟨k -1,by omega⟩;by_cases hm:m=0;subst hm;have:i=l.length:=(by omega);subst this;refine fI ?_;simp[xB,oI];have hi:i<l.length:=(by omega);have di:decide ((i:Int)<(l.length:Int))=true:=(by simpa using hi);obtain⟨q,hq1,hq2,hq3,hq4⟩:∃q,i<q/\q<=l.length/\(∀ j,i<j->j<q->∀h:j<l.length,l[j].column=l[i].column)/\(∀ h:q<l.length,l[q].column≠l[i].column):=(by rcases LQ (λ j=>if h:j<l.length then decide (l[j].column≠l[i].column)else false) (i+1) l.length with ⟨q,h1,h2,h3,h4⟩ |h;simp[h2]at h3;refine⟨q,by omega,by omega,λj hj1 hj2 hj=>?_,λ_=>h3⟩;have:=h4 j (by omega) hj2;simp[hj,Decidable.not_not]at this;exact this;refine⟨l.length,hi,aB _,λj hj1 hj2 hj=>?_,λh=>by omega⟩;have:=h j (by omega) hj;simp[hj,dite_true,fF,ne_eq,Decidable.not_not]at this;exact this);have cl:∀j (hj:j<l.length),l[j].column.length<=b:=λj hj=>hc _ (getElem_mem hj);have r2:iter (tF n l (i:Int)) n (i64.wrap ((i:Int)+1))=some (q:Int):=(by rw[aL (by omega)];have:=iJ (step:=tF n l (i:Int)) (λ j=>((i+1+j:Nat):Int)) (q -(i+1)) q (λ j hj=>?_) ?_ n (by omega);simpa using this;have hjl:i+1+j<l.length:=(by omega);have dj:decide (((i+1+j:Nat):Int)<l.length)=true:=(by simp;omega);have hcc:=cl (i+1+j) hjl;simp only[tF,dj,aj,aQ hjl,aQ hi,ai];rw[Dz (by omega) (by omega),hq3 (i+1+j) (by omega) (by omega) hjl];simp only[decide_true,ai,aj];rw[aL (by omega)];rfl;rw[show i+1+(q -(i+1))=q by omega];by_cases A0:q<l.length;have dj:decide ((q:Nat)<l.length)=true:=(by simpa using A0);have hcc:=cl q A0;simp[tF,dj,aj,aQ A0,aQ hi,ai];rw[Dz (by omega) (by omega)];simp[hq4 A0];have dj:decide ((q:Int)<l.length)=false:=(by simp;omega);simp only[tF,dj,au,ai]);have ob:i*b<=100000*100000:=Nat.mul_le_mul (by omega) hb;have hci:=cl i hi;have r3:=Ue (n:=n) hi (show 0<q by omega) hq2 (by omega) l[i] out (by omega) (by omega) (by omega);have step:xB n l (i,out)=some (.inl (q,out++FB l[i].x0 (l[q -1]'(by omega)).x1 l[i].column)):=(by simp only[xB,di,aj,r2,aQ hi,ai,aH,r3]);rw[jL step,ih (l.length -q) (by omega) q _ k (by omega) (by omega) (by rw[dQ,FB,length_map];have:(i+1)*b<=q*b:=Nat.mul_le_mul_right _ (by omega);rw[Nat.add_mul]at this;omega)];rw[aT];congr 2
   conv=>rhs;rw[List.drop_eq_getElem_cons hi]
   simp[oI];rw[abR l[i].x0 l[i].column (l.drop (i+1)) l[i].x1 (q -(i+1)) (by rw[length_drop];omega) (λ j hj=>by rw[getElem_drop];exact hq3 _ (by omega) (by omega) (by omega)) (λ h=>by rw[length_drop]at h;rw[getElem_drop];have:=hq4 (by omega);have hqq:i+1+(q -(i+1))=q:=(by omega);simp[hqq];exact this)];rw[List.drop_drop,show i+1+(q -(i+1))=q by omega];congr 2;by_cases h0:0<q -(i+1);simp[h0,dite_true,getElem_drop];congr 2;omega;simp[h0,dite_false];have:q -1=i:=(by omega);congr 2
 have:=main l.length 0 [] n (by omega) (by omega) (by simp);simp[Int.natCast_zero,fH,List.drop_zero]at this;rw[this];simp
def td(l:List ax):List ax×Int:=
 if l.all fx then(if l.length>400 then([],6)else if (oI (bq l)).length>200 then([],6)else(oI (bq l),0))else([],1)
def c7(l:List ax):Bool:=decide ((td l).2=0)&&decide ((td l).1=l)
theorem afB{l:List ax}{s:bR}(h:s∈bq l):s.column.length<=l.length:=by obtain⟨i,hi,rfl⟩:=List.getElem_of_mem h;obtain⟨p1,p2⟩:=sS (λ a b=>(⟨a,b,dm l a⟩:bR)) (gY l);have:(bq l)[i]=⟨(gY l)[i]'(by unfold bq at hi;omega),(gY l)[i+1]'(by unfold bq at hi;omega),dm l ((gY l)[i]'(by unfold bq at hi;omega))⟩:=p2 i (by unfold bq at hi;omega) hi;rw[this];exact zI l _
theorem uV l:(bq l).length<=2*l.length:=by obtain⟨p1,_⟩:=sS (λ a b=>(⟨a,b,dm l a⟩:bR)) (gY l);have:=LX l;unfold bq;omega
theorem anm{l:List ax}(hl:l.length<1099511627776)(hl2:l.length<n)(hn:1000<=n):Th n l=some (td l):=by
 unfold Th;have h1:=kz (l:=l) (step:=OI l) (λ i=>i) (λ r=>!fx r) () (λ _=>([],1)) (λ i hi=>?_) ?_ n (by omega);rw[fL]at h1;rw[h1];have h2:=jP (λ r=>!fx r) l;cases hf:nE (λ r=>!fx r) l with
 |some i=>
  rw[hf]at h2;have:l.all fx=false:=by rw[<- Bool.not_eq_true,all_eq_true];intro hall;have h3:=h2.symm;simp only[Option.isSome_some,any_eq_true]at h3;obtain⟨x,hx,hx2⟩:=h3;rw[hall x hx]at hx2;cases hx2
  simp[td,this]
 |none=>
  rw[hf]at h2;have:l.all fx=true:=by
   rw[all_eq_true];intro x hx;cases h:fx x with
   |true=>rfl
   |false=>
    have:l.any (λ r=>!fx r)=true:=any_eq_true.2 ⟨x,hx,by rw[h];rfl⟩;rw[this]at h2;cases h2
  have hv:∀r∈l,fx r=true:=all_eq_true.1 this;by_cases LN:l.length>400;have d4:decide ((l.length:Int)>400)=true:=by simp;omega
  simp[d4,td,this,aU LN];have d4:decide ((l.length:Int)>400)=false:=by simp;omega
  have ls:=uV l;simp[d4];have fl:[l].flatten=l:=by simp
  rw[show (sub ([l]:List (List ax)) 0 1)=[l]from rfl,yM (ls:=[l]) (by rw[fl];exact hv) (by rw[fl];omega) (by simp) (by rw[fl];omega) (by simp;omega),fl];simp;rw[Tq (b:=400) (by omega) (by omega) (λ s hs=>Nat.le_trans (afB hs) (by omega)) (by omega) (by omega)];simp[zw,td,this,aP LN];by_cases sB:(oI (bq l)).length>200;have:decide (((oI (bq l)).length:Int)>200)=true:=by simp;omega
  simp[this,sB];have:decide (((oI (bq l)).length:Int)>200)=false:=by simp;omega
  simp[this,sB]
 have hi':decide ((i:Int)<l.length)=true:=by simpa using hi
 simp only[OI,hi',aj,aQ hi,ai,jI];cases fx l[i]with
 |false=>rfl
 |true=>simp only[Bool.not_true,au];rw[aL (by omega)]
 simp[OI]
theorem jk{l:List ax}(hl:l.length<1099511627776)(hl2:l.length<n)(hn:1000<=n):lY n l=some (c7 l):=by
 unfold lY c7;rw[anm hl hl2 hn];simp;by_cases h:(td l).2=0;have e:((td l).2==0)=true:=by simp[h]
 have lo:(td l).1.length<=200:=by unfold td;split;split;simp;split;simp;simp;omega;simp
 by_cases hlen:(td l).1.length<n;simp only[h,decide_true,Bool.true_and];rw[Dy (by omega) hlen];rfl;have:(td l).1.length≠l.length:=by omega
 have hne:(td l).1≠l:=λe=>this (by rw[e]);simp[h];unfold pI;have hb:(((td l).1.length:Int) !=l.length)=true:=by simp;omega
 rw[hb];simp[hne];have e:((td l).2==0)=false:=by simp[h]
 simp[e,h]
theorem FC{α:Type} c (a b:α):(bif c then some a else some b)=some (bif c then a else b):=by cases c<;>rfl
theorem abS(i n:Nat):Int.tmod (i:Int) (n:Int)=(i%n:Nat):=by rw[Int.tmod_eq_emod_of_nonneg (by omega)];omega
theorem cu{i n:Nat}(h:i<n):decide ((i:Int)<(n:Nat))=true:=by simpa using h
theorem O3(n:Nat):decide ((n:Int)<(n:Nat))=false:=by simp
theorem ajM{k b:Nat}(h:k*b<=140737488355328)(h2:k<=maxLen):qH k b=true:=by
 have e:((k:Int)).toNat=k:=by omega
 simp only[qH,aY,bF,e];exact⟨⟨by omega,h⟩,h2⟩
def ri(p:List dY)(i:Nat):dY:=p.getD i ⟨0,0⟩
def jl(p:List dY)(i:Nat):jM:=⟨(ri p i).x,(ri p i).y,(ri p ((i+1)%p.length)).x,(ri p ((i+1)%p.length)).y⟩
def fZ(p:List dY):List jM:=(List.range p.length).map (jl p)
theorem Vy{p:List dY}{i:Nat}(h:i<p.length):ri p i=p[i]:=by simp[ri,h]
theorem dV p:(fZ p).length=p.length:=by simp[fZ]
theorem zJ{p:List dY}{i:Nat}(h:i<(fZ p).length):(fZ p)[i]=jl p i:=by simp[fZ]
theorem ano{α:Type}(A B:List α)(z x:α):(A++z::B).set A.length x=A++x::B:=by rw[List.set_append_right _ _ (aB _),Nat.sub_self];rfl
theorem Bh{p:List dY}(hl:p.length<=100000)(hn:p.length<n):qp n p=some (fZ p):=by
 unfold qp;have mk:qH (p.length:Nat) 32=true:=ajM (by omega) (by show p.length<=2 ^ 63 -1;omega);have main:=iJ (step:=p8 p) (λ i=>((i:Nat),(List.range i).map (jl p)++List.replicate (p.length -i) (jM.mk 0 0 0 0))) p.length (fZ p) (λ i hi=>?_) ?_ n hn;have z:((p.length:Int)).toNat=p.length:=by omega
 simp only[List.range_zero,List.map_nil,fH,Nat.sub_zero]at main;have d1:decide ((p.length:Int)<=(p.length:Nat))=true:=by simp
 have d2:decide ((0:Int)<=(p.length:Nat))=true:=by simp
 rw[mk,d1,d2,z];simp;rw[fL]at main;rw[main];simp;have e:sub (fZ p) 0 p.length=fZ p:=by rw[<- dV p];exact dO _
 rw[e,dV];simp;have nz:((p.length:Int) !=0)=true:=by simp;intro h;rw[h]at hi;simp at hi
 have md:(i+1)%p.length<p.length:=Nat.mod_lt _ (by omega);have w:i64.wrap (i+1)=(i+1:Nat):=aL (by omega);have z:((p.length:Int)).toNat=p.length:=by omega
 have rp:List.replicate (p.length -i) (jM.mk 0 0 0 0)=jM.mk 0 0 0 0::List.replicate (p.length -(i+1)) (jM.mk 0 0 0 0):=by rw[show p.length -i=(p.length -(i+1))+1 by omega,List.replicate_succ]
 have la:((List.range i).map (jl p)).length=i:=by simp
 have g:bj ((List.range i).map (jl p)++List.replicate (p.length -i) (jM.mk 0 0 0 0)) ((0:Nat)+(i:Nat))=some (jM.mk 0 0 0 0):=by rw[EU,qD (by omega),la,rp,Nat.sub_self];rfl
 have z2:(((0:Nat):Int)+(i:Nat)).toNat=i:=by omega
 have st:((List.range i).map (jl p)++List.replicate (p.length -i) (jM.mk 0 0 0 0)).set i (jl p i)=(List.range (i+1)).map (jl p)++List.replicate (p.length -(i+1)) (jM.mk 0 0 0 0):=by rw[rp];have:=ano ((List.range i).map (jl p)) (List.replicate (p.length -(i+1)) (jM.mk 0 0 0 0)) (jM.mk 0 0 0 0) (jl p i);rw[la]at this;rw[this,List.range_succ,map_append,aT];rfl
 simp only[p8,cu hi,aj,aQ hi,ai,nz,w,abS,aQ md,z,aZ hi,g,z2];rw[<- Vy hi,<- Vy md];rw[show jM.mk (ri p i).x (ri p i).y (ri p ((i+1)%p.length)).x (ri p ((i+1)%p.length)).y=jl p i from rfl,st];simp[p8];rfl
def Vz(a:dY):Bool:=decide (0<=a.x)&&(decide (a.x<=1048576)&&(decide (0<=a.y)&&decide (a.y<=1048576)))
def wi(s:jM):Bool:=s.mL==s.nb
def Tu(s t:jM):Bool:=decide (max (min s.mL s.nb) (min t.mL t.nb)<=min (max s.mL s.nb) (max t.mL t.nb))&&decide (max (min s.q7 s.wd) (min t.q7 t.wd)<=min (max s.q7 s.wd) (max t.q7 t.wd))
def VA(a b:dY):Bool:=decide (a.x<b.x) || (a.x==b.x&&decide (a.y<b.y))
theorem O4(a:dY):uL a=some (Vz a):=by simp[uL,zH,Vz]
theorem DF(s t:jM):mh s t=some (Tu s t):=by simp[mh,zH,Tu]
theorem nS(s:jM):gM s=some (wi s):=rfl
theorem XZ(a b:Int)(hn:3<=n):wu n [a,b]=some (if a=0 then b else a):=by
 obtain⟨m,rfl⟩:∃m,n=m+3:=⟨n -3,by omega⟩;have w1:i64.wrap (0+1)=1:=by decide
 have w2:i64.wrap (1+1)=2:=by decide
 by_cases ha:a=0;by_cases hb:b=0;subst ha;subst hb;simp;rfl;have hb':(b !=0)=true:=by simpa using hb
 subst ha;simp only[wu,Kh,BQ,w1];simp[bj,hb'];have ha':(a !=0)=true:=by simpa using ha
 simp[wu,Kh,BQ];simp[bj,ha',ha]
theorem MH(a b:dY)(hn:3<=n):∃r,sF n a b=some r/\decide (r>=0)=!VA a b:=by
 unfold sF;rw[kR,kR];simp;rw[show ∀u v:Int,sub [u,v] 0 2=[u,v]from λ_ _=>rfl,XZ _ _ hn];refine⟨_,rfl,?_⟩;unfold VA;by_cases h1:a.x<b.x;simp[h1];by_cases h2:b.x<a.x;have h3:¬a.x=b.x:=by omega
 simp[h1,h2,h3];have h3:a.x=b.x:=by omega
 by_cases h4:a.y<b.y;simp[h3,h4];by_cases h5:b.y<a.y<;>simp[h3,h4,h5]
def M2(p:List dY)(i:Nat):Bool:=
 (!Vz (ri p i) || ((((jl p i).mL==(jl p i).nb)==((jl p i).q7==(jl p i).wd)) || (wi (jl p i)==wi (jl p ((i+1)%p.length))))) || (decide (0<i)&&!VA (ri p 0) (ri p i))
def Uf(p:List dY)(i k:Nat):Bool:=decide (i+p.length -k>1)&&Tu (jl p i) (jl p k)
def Q9(p:List dY):Bool:=
 decide (4<=p.length)&&(decide (p.length<=60)&&(!((List.range p.length).any (M2 p))&&(!((List.range p.length).any λi=>(List.range p.length).any λk=>decide (i+2<=k)&&Uf p i k)&&!wi (jl p 0))))
def ah6(l:List ax)(x y:Int):Bool:=l.any λr=>(decide (r.x0<=x)&&decide (x<r.x1))&&(decide (r.y0<=y)&&decide (y<r.y1))
theorem afC l (x y:Int):js (kX l x) y=ah6 l x y:=by
 induction l with
 |nil=>rfl
 |cons r l ih=>
  unfold kX ah6 at*;rw[List.filter_cons,List.any_cons,<- ih];cases h:(decide (r.x0<=x)&&decide (x<r.x1))with
  |true=>simp;rw[pu]
  |false=>simp
theorem O5{l:List ax}(h:∀r∈l,fx r=true) x:Can (dm l x)/\∀y,js (dm l x) y=ah6 l x y:=by have⟨h1,h2⟩:=abQ (XY h x);exact⟨h1,λy=>by rw[dm,h2,afC]⟩
def X0:List bR->Prop
 |[]=>True
 |[s]=>s.x0<s.x1
 |s::t::l=>s.x0<s.x1/\s.x1=t.x0/\X0 (t::l)
def Jm:List bR->Int->List aR
 |[],_=>[]
 |s::l,x=>bif decide (s.x0<=x)&&decide (x<s.x1)then s.column else Jm l x
theorem zK(s:bR) l x:Jm (s::l) x=bif decide (s.x0<=x)&&decide (x<s.x1)then s.column else Jm l x:=rfl
def Runs:List bR->Prop
 |[]=>True
 |[s]=>s.x0<s.x1/\s.column≠[]
 |s::t::l=>(s.x0<s.x1/\s.column≠[])/\s.x1<=t.x0/\(s.x1=t.x0->s.column≠t.column)/\Runs (t::l)
theorem aoZ{s:bR}{l:List bR}{x:Int}(h1:s.x0<=x)(h2:x<s.x1):Jm (s::l) x=s.column:=by rw[zK,show(decide (s.x0<=x)&&decide (x<s.x1))=true by simp[h1,h2]];rfl
theorem qX{α:Type}(f:Int->Int->α)(a b:Int) l:jJ f (a::b::l)=f a b::jJ f (b::l):=rfl
theorem O6(g:Int->List aR):∀es,es.Pairwise (· < ·)->X0 (jJ (λ a b=>(⟨a,b,g a⟩:bR)) es)
 |[],_ |[_],_=>trivial
 |[a,b],h=>by have h1:=(pairwise_cons.1 h).1 b (by simp);exact h1
 |a::b::c::l,h=>by have h1:=(pairwise_cons.1 h).1 b (by simp);exact⟨h1,rfl,O6 g (b::c::l) (pairwise_cons.1 h).2⟩
theorem Jo(g:Int->List aR) x:∀es,(∀ e∈es,x<e)->Jm (jJ (λ a b=>(⟨a,b,g a⟩:bR)) es) x=[]
 |[],_ |[_],_=>rfl
 |a::b::l,h=>by have ha:=h a (by simp);rw[qX,zK,show(decide (a<=x)&&decide (x<b))=false by rw[Bool.and_eq_false_iff,fF];left;omega,au];exact Jo g x (b::l) λe he=>h e (d9 _ he)
theorem Jp(g:Int->List aR) x:∀l a,(a::l).Pairwise (· < ·)->a<=x->
 (∀ e∈a::l,e<=x->(∀ e'∈a::l,e'<=e\/x<e')->g e=g x)->((∀ e∈a::l,e<=x)->g x=[])->Jm (jJ (λ a b=>(⟨a,b,g a⟩:bR)) (a::l)) x=g x
 |[],a,_,hx,_,h2=>(h2 (λ e he=>by have:e=a:=by simpa using he
                                  subst this;exact hx)).symm
 |b::l,a,hp,hx,h1,h2=>by have hab:=(pairwise_cons.1 hp).1 b (by simp);rw[qX,zK];by_cases hb:x<b;rw[show (decide (a<=x)&&decide (x<b))=true by simp[hx,hb],aj];refine h1 a (by simp) hx λe he=>?_;rcases aI.1 he with rfl |he;exact .inl (Int.le_refl _);right;rcases aI.1 he with rfl |he;exact hb;have:=(pairwise_cons.1 (pairwise_cons.1 hp).2).1 e he;omega;rw[show (decide (a<=x)&&decide (x<b))=false by simp[hb],au];refine Jp g x l b (pairwise_cons.1 hp).2 (by omega) (λ e he hex hc=>h1 e (d9 _ he) hex λe' he'=>?_) λhall=>h2 λe he=>?_;rcases aI.1 he' with rfl |he';left;have:=(pairwise_cons.1 hp).1 e he;omega;exact hc e' he';rcases aI.1 he with rfl |he;exact hx;exact hall e he
theorem afD(g:Int->List aR) es (hp:es.Pairwise (· < ·)) x
 (h1:∀e∈es,e<=x->(∀ e'∈es,e'<=e\/x<e')->g e=g x) (h2:(∀ e∈es,e<=x)->g x=[]) (h3:(∀ e∈es,x<e)->g x=[]):Jm (jJ (λ a b=>(⟨a,b,g a⟩:bR)) es) x=g x:=by
 cases es with
 |nil=>exact(h3 (by simp)).symm
 |cons a l=>
  by_cases hx:a<=x;exact Jp g x l a hp hx h1 h2;have hall:∀e∈a::l,x<e:=by intro e he;rcases aI.1 he with rfl |he;omega;have:=(pairwise_cons.1 hp).1 e he;omega
  rw[Jo g x _ hall,h3 hall]
theorem X4{l:List ax}{z:Int}:z∈gY l↔∃r∈l,z=r.x0\/z=r.x1:=by rw[gY,amK,List.mem_flatMap];simp
theorem LY l:(gY l).Pairwise (· < ·):=afb _
theorem Z5{l:List ax}{es:List Int}(hes:∀r∈l,r.x0∈es/\r.x1∈es){e x:Int}(hex:e<=x)(hc:∀e'∈es,e'<=e\/x<e'):kX l e=kX l x:=by unfold kX;congr 1;refine List.filter_congr λr hr=>?_;have⟨h0,h1⟩:=hes r hr;have:=hc _ h0;have:=hc _ h1;rw[fB,aY,aY,bF,bF,bF,bF];omega
theorem O7{l:List ax}{x:Int}(h:∀r∈l,x<r.x0\/r.x1<=x):kX l x=[]:=by unfold kX;rw[List.map_eq_nil_iff,List.filter_eq_nil_iff];intro r hr;have:=h r hr;rw[aY,bF,bF];omega
theorem Jq l:X0 (bq l):=O6 _ _ (LY l)
theorem LZ l x:Jm (bq l) x=dm l x:=by have hes:∀r∈l,r.x0∈gY l/\r.x1∈gY l:=λr hr=>⟨X4.2 ⟨r,hr,.inl rfl⟩,X4.2 ⟨r,hr,.inr rfl⟩⟩;refine afD (dm l) (gY l) (LY l) x (λ e _ hex hc=>?_) (λ hall=>?_) (λ hall=>?_);unfold dm;rw[Z5 hes hex hc];unfold dm;rw[O7 λr hr=> .inr (hall _ (hes r hr).2)];rfl;unfold dm;rw[O7 λr hr=> .inl (hall _ (hes r hr).1)];rfl
theorem ak0{a:List ax}(h:c7 a=true):td a=(a,0):=by unfold c7 at h;rw[aY,bF,bF]at h;obtain⟨h1,h2⟩:=h;exact Prod.ext h2 h1
theorem uW{a:List ax}(h:c7 a=true):(∀ r∈a,fx r=true)/\a.length<=200/\oI (bq a)=a:=by have h:=ak0 h;unfold td at h;split at h;rename_i hall;split at h;simp at h;split at h;simp at h;rename_i sB;injection h with h _;refine⟨all_eq_true.1 hall,?_,h⟩;rw[<- h];omega;simp at h
def ext(out:List aR)(p:aR):List aR:=
 match out.getLast? with
 |some q=>bif q.to==p.from_ then out.dropLast++[⟨q.from_,p.to⟩]else out++[p]
 |none=>[p]
def lO(a b:List aR):List Int:=ZU ((a++b).flatMap λs=>[s.from_,s.to])
def uX(keep:Bool->Bool->Bool)(a b:List aR):List aR:=
 ((jJ aR.mk (lO a b)).filter λp=>keep (js a p.from_) (js b p.from_)).foldl ext []
theorem ah7 o (q p:aR):ext (o++[q]) p=bif q.to==p.from_ then o++[⟨q.from_,p.to⟩]else o++[q]++[p]:=by simp[ext]
def rU(keep:Bool->Bool->Bool)(a b:List ax):List bR:=
 jJ (λ x x'=>(⟨x,x',uX keep (dm a x) (dm b x)⟩:bR)) (gY (a++b))
def uY(keep:Bool->Bool->Bool)(a b:List ax):List ax×Int:=
 if c7 a&&c7 b then(if (oI (rU keep a b)).length>200 then([],6)else(oI (rU keep a b),0))else([],1)
def X5{α:Type}(a0:List α)(a1:Int)(a2:(α×Int×Unit)->Option Int):(Int×Int)->Option ((Int×Int)⊕Int)
 |(v1,v2)=>(bif (decide (v1<v2))then(ck (decide (0<=1)&&decide (1<=IntKind.u64.bits)) ((bj a0 (i64.wrap ((IntKind.u64.wrap (i64.wrap (v1+v2)))/2 ^ (1:Int).toNat))).bind λx1=>(a2 (x1,a1,())).bind λr1=>(bif (decide (r1<0))then some (.inl ((i64.wrap ((i64.wrap ((IntKind.u64.wrap (i64.wrap (v1+v2)))/2 ^ (1:Int).toNat))+1)),v2))else some (.inl (v1,(i64.wrap ((IntKind.u64.wrap (i64.wrap (v1+v2)))/2 ^ (1:Int).toNat)))))))else some (.inr v1))
theorem afE{α:Type}{l:List α}{key:Int}{φ:(α×Int×Unit)->Option Int}(p:α->Bool)(f:α->Int)(hφ:∀x,φ (x,key,())=some (f x))(hf:∀x,decide (f x<0)=p x)
 (hm:∀i j (hj:j<l.length) (hij:i<j),p l[j]=true->p (l[i]'(by omega))=true) (hl:l.length<1099511627776):
 ∀(m i j n:Nat),j -i<=m->i<=j->j<=l.length->(∀ k (hk:k<i) (hkl:k<l.length),p l[k]=true)->(∀ k (hk:j<=k) (hkl:k<l.length),p l[k]=false)->m<n->
 ∃w:Nat,w<=l.length/\iter (X5 l key φ) n (i,j)=some (w:Int)/\(∀ k (hk:k<w) (hkl:k<l.length),p l[k]=true)/\∀k (hk:w<=k) (hkl:k<l.length),p l[k]=false:=by
 intro m
 induction m with
 |zero=>
  intro i j n hm0 hij hjl h1 h2 hn;obtain⟨n,rfl⟩:∃q,n=q+1:=⟨n -1,by omega⟩;have:i=j:=by omega
  subst this;exact⟨i,hjl,fI (by simp[X5]),h1,h2⟩
 |succ m ih=>
  intro i j n hm0 hij hjl h1 h2 hn;obtain⟨n,rfl⟩:∃q,n=q+1:=⟨n -1,by omega⟩;by_cases hlt:i<j;have c:decide ((i:Int)<(j:Nat))=true:=by simpa using hlt
  have c1:(decide (0<=1)&&decide (1<=IntKind.u64.bits))=true:=rfl;have e:i64.wrap ((IntKind.u64.wrap (i64.wrap ((i:Nat)+(j:Nat))))/2 ^ (1:Int).toNat)=((i+j)/2:Nat):=by
   rw[arE (by omega),abH (by omega),show((((i+j:Nat):Int))/2 ^ (1:Int).toNat)=((i+j)/2:Nat)by
    rw[show (1:Int).toNat=1 from rfl,Int.pow_one];omega,Oc (by omega)]
  have hh:(i+j)/2<l.length:=by omega
  cases hp:p l[(i+j)/2]with
  |true=>
   have s:X5 l key φ (i,j)=some (.inl (((i+j)/2+1:Nat),j)):=(by simp only[X5,c,aj,c1,e,aQ hh,ai,hφ,hf,hp];rw[aL (by omega)]);rw[jL s];refine ih _ _ n (by omega) (by omega) hjl (λ k hk hkl=>?_) h2 (by omega);by_cases hk2:k<(i+j)/2;exact hm k _ hh hk2 hp;have:k=(i+j)/2:=(by omega);subst this;exact hp
  |false=>
   have s:X5 l key φ (i,j)=some (.inl (i,((i+j)/2:Nat))):=(by simp only[X5,c,aj,c1,e,aQ hh,ai,hφ,hf,hp,au]);rw[jL s];refine ih _ _ n (by omega) (by omega) (by omega) h1 (λ k hk hkl=>?_) (by omega);by_cases hk2:(i+j)/2<k;cases hpk:p l[k]with
   |false=>rfl
   |true=>have:=hm _ k hkl hk2 hpk;rw[hp]at this;cases this
   have:k=(i+j)/2:=(by omega);subst this;exact hp
  have:i=j:=by omega
  subst this;exact⟨i,hjl,fI (by simp[X5]),h1,h2⟩
theorem anq l key (φ:(bR×Int×Unit)->Option Int):l8 l key φ=X5 l key φ:=by funext ⟨a,b⟩;rfl
theorem ao0 l key (φ:(aR×Int×Unit)->Option Int):nH l key φ=X5 l key φ:=by funext ⟨a,b⟩;rfl
theorem X6:∀{l:List bR},X0 l->l.Pairwise (λ s t=>s.x1<=t.x0)/\∀s∈l,s.x0<s.x1
 |[],_=>⟨List.Pairwise.nil,by simp⟩
 |[s],h=>⟨by simp,λt ht=>by have:t=s:=by simpa using ht
                            subst this;exact h⟩
 |s::t::l,h=>by obtain⟨h1,h2,h3⟩:=h;have⟨p1,p2⟩:=X6 h3;refine⟨?_,?_⟩;rw[pairwise_cons];refine⟨λ u hu=>?_,p1⟩;rcases aI.1 hu with rfl |hu;omega;have:=(pairwise_cons.1 p1).1 u hu;have:=p2 t (by simp);omega;intro u hu;rcases aI.1 hu with rfl |hu;exact h1;exact p2 u hu
theorem MI{x:Int}:∀{l:List bR},(∀ s∈l,¬(s.x0<=x/\x<s.x1))->Jm l x=[]
 |[],_=>rfl
 |s::l,h=>by have:=h s (by simp);rw[zK,show(decide (s.x0<=x)&&decide (x<s.x1))=false by rw[Bool.and_eq_false_iff,fF,fF];omega,au];exact MI λt ht=>h t (by simp[ht])
theorem abT{x:Int}:∀{l:List bR}{w:Nat}(hw:w<l.length),(∀ k (hk:k<w),¬((l[k]'(by omega)).x0<=x/\x<(l[k]'(by omega)).x1))->l[w].x0<=x->x<l[w].x1->Jm l x=l[w].column
 |[],w,hw,_,_,_=>by simp at hw
 |s::l,0,hw,_,h0,h1=>aoZ h0 h1
 |s::l,w+1,hw,hk,h0,h1=>by have hs:=hk 0 (by omega);simp at hs;rw[zK,show(decide (s.x0<=x)&&decide (x<s.x1))=false by rw[Bool.and_eq_false_iff,fF,fF];omega,au];exact abT (by simpa using hw) (λ k hk'=>by have:=hk (k+1) (by omega);simpa using this) h0 h1
theorem afF{l:List bR}{x:Int}(h:X0 l)(hl:l.length<1099511627776)(hn:l.length<n):XR n l x=some (Jm l x):=by
 have⟨a1,a2⟩:=X6 h;rw[List.pairwise_iff_getElem]at a1
 have run:=afE (l:=l) (key:=x) (φ:=λ(y1:bR×Int×Unit)=>xE y1.1 y1.2.1) (λ s=>decide (s.x1<=x)) (λ s=>if s.x1<=x then -1 else 1)
  (λ s=>by show xE s x=_;unfold xE;by_cases c:s.x1<=x<;>simp[c]) (λ s=>by by_cases c:s.x1<=x<;>simp[c])
  (λ i j hj hij hp=>by rw[bF]at hp ⊢;have:=a1 i j (by omega) hj hij;have:=a2 l[j] (getElem_mem _);omega) hl l.length 0 l.length n (by omega) (by omega) (aB _) (λ k hk=>by omega) (λ k hk hkl=>by omega) hn
 obtain⟨w,hw,e,h1,h2⟩:=run;unfold XR jg;rw[anq];have e':iter (X5 l x λ(y1:bR×Int×Unit)=>xE y1.1 y1.2.1) n (0,(l.length:Nat))=some (w:Int):=e;rw[e'];simp only[ai];have an:∀b:Int,∃bb,((bif (decide (w<(l.length:Int)))then(bj l w).bind λx2=>(xE x2 x).bind λr2=>some (w,(r2==b))else some (w,false)):Option (Int×Bool))=some ((w:Int),bb):=by
  intro b;by_cases c:w<l.length;have d:decide ((w:Int)<l.length)=true:=by simpa using c
  rw[d];simp only[aj];rw[aQ c,ai];unfold xE;cases decide (l[w].x1<=x)<;>exact⟨_,rfl⟩;have d:decide ((w:Int)<l.length)=false:=by simp;omega
  rw[d];exact⟨_,rfl⟩
 have⟨bb,hbb⟩:=an 0;rw[hbb,ai];simp only[];by_cases c:w<l.length;have d:decide ((w:Int)<l.length)=true:=by simpa using c
 simp only[d,aj,aQ c,ai];have hx1:=h2 w (aB _) c;rw[fF]at hx1;by_cases c2:l[w].x0<=x;simp[c2];rw[abT c (λ k hk hh=>?_) c2 (by omega)];have:=h1 k hk (by omega);rw[bF]at this;omega;simp[c2];rw[MI λs hs hh=>?_];obtain⟨k,hk,rfl⟩:=mem_iff_getElem.1 hs;rcases Nat.lt_trichotomy k w with DG |rfl |DG;have:=h1 k DG hk;rw[bF]at this;omega;omega;have:=a1 w k c hk DG;have:=a2 l[w] (getElem_mem _);omega;have d:decide ((w:Int)<l.length)=false:=by simp;omega
 simp only[d,au,ai];rw[MI λs hs hh=>?_];obtain⟨k,hk,rfl⟩:=mem_iff_getElem.1 hs;have:=h1 k (by omega) hk;rw[bF]at this;omega
theorem O8{l:List aR}{y:Int}(h:Can l)(hl:l.length<1099511627776)(hn:l.length<n):Dv n l y=some (js l y):=by
 obtain⟨a1,a2⟩:=h;rw[List.pairwise_iff_getElem]at a1
 have run:=afE (l:=l) (key:=y) (φ:=λ(y1:aR×Int×Unit)=>l9 y1.1 y1.2.1) (λ s=>decide (s.to<=y)) (λ s=>if s.to<=y then -1 else 1)
  (λ s=>by show l9 s y=_;unfold l9;by_cases c:s.to<=y<;>simp[c]) (λ s=>by by_cases c:s.to<=y<;>simp[c])
  (λ i j hj hij hp=>by rw[bF]at hp ⊢;have:=a1 i j (by omega) hj hij;have:l[j].from_<l[j].to:=a2 l[j] (getElem_mem _);omega) hl l.length 0 l.length n (by omega) (by omega) (aB _) (λ k hk=>by omega) (λ k hk hkl=>by omega) hn
 obtain⟨w,hw,e,h1,h2⟩:=run;unfold Dv jH;rw[ao0];have e':iter (X5 l y λ(y1:aR×Int×Unit)=>l9 y1.1 y1.2.1) n (0,(l.length:Nat))=some (w:Int):=e;rw[e'];simp only[ai];have an:∀b:Int,∃bb,((bif (decide (w<(l.length:Int)))then(bj l w).bind λx2=>(l9 x2 y).bind λr2=>some (w,(r2==b))else some (w,false)):Option (Int×Bool))=some ((w:Int),bb):=by
  intro b;by_cases c:w<l.length;have d:decide ((w:Int)<l.length)=true:=by simpa using c
  rw[d];simp only[aj];rw[aQ c,ai];unfold l9;cases decide (l[w].to<=y)<;>exact⟨_,rfl⟩;have d:decide ((w:Int)<l.length)=false:=by simp;omega
  rw[d];exact⟨_,rfl⟩
 have⟨bb,hbb⟩:=an 0;rw[hbb,ai];simp only[];by_cases c:w<l.length;have d:decide ((w:Int)<l.length)=true:=by simpa using c
 simp only[d,aj,aQ c,ai];have hx1:=h2 w (aB _) c;rw[fF]at hx1;congr 1;rw[fB,bF,O1];constructor;exact λhf=>⟨l[w],getElem_mem _,hf,by omega⟩;rintro⟨s,hs,g1,g2⟩;obtain⟨k,hk,rfl⟩:=mem_iff_getElem.1 hs;rcases Nat.lt_trichotomy k w with DG |rfl |DG;have:=h1 k DG hk;rw[bF]at this;omega;exact g1;have:=a1 w k c hk DG;omega;have d:decide ((w:Int)<l.length)=false:=by simp;omega
 simp only[d,au];congr 1;symm;cases hh:js l y with
 |false=>rfl
 |true=>
  obtain⟨s,hs,g1,g2⟩:=(O1 _ _).1 hh;obtain⟨k,hk,rfl⟩:=mem_iff_getElem.1 hs;have:=h1 k (by omega) hk;rw[bF]at this;omega
theorem O9{l:List (List aR)}(hf:l.flatten.length<1099511627776)(hl:l.length<1099511627776)(hn:l.length<n):zC n l=some l.flatten:=Oe (aR.mk 0 0) (b:=16) hf (by omega) hl hn
theorem Pb(l:List aR):(l.flatMap λr=>[r.from_,r.to]).length=2*l.length:=by
 induction l with
 |nil=>rfl
 |cons x l ih=>simp[ih];omega
theorem Ug{l:List aR}(hl:l.length<10995116277)(hn:l.length<n):iter (xG l) n (0,[])=some (l.flatMap λr=>[r.from_,r.to]):=by
 have:=dN (l:=l) (step:=xG l) (λ i s=>(i,s)) (λ r s=>s++[r.from_,r.to]) (λ s=>s) (λ i s=>s.length<=2*i)
  (λ i hi s hs=>?_) (λ s hs=>by simp[xG]) n hn [] (aB _)
 rw[fL]at this;rw[this];have gen:∀(ys:List aR) s,ys.foldl (λ s r=>s++[r.from_,r.to]) s=s++ys.flatMap λr=>[r.from_,r.to]:=by
  intro ys
  induction ys with
  |nil=>intro s;simp
  |cons y ys ih=>intro s;simp[ih]
 congr 1;simpa using gen l [];have hi':decide ((i:Int)<(l.length:Nat))=true:=by simpa using hi
 have ap:bJ s.length s.length (sub ([l[i].from_,l[i].to]:List Int) 0 2).length 2 8=true:=bX (n:=2) (by omega) (by simp[maxLen];omega);simp only[xG,hi',aj,aZ hi,bK hi,ai,ap,eu,aH];refine⟨?_,by simp;omega⟩;rw[aL (by omega)];rfl
theorem X7{α β:Type}(p:α->Bool)(f:β->α->β):∀(l:List α)(s:β),(l.filter p).foldl f s=l.foldl (λ s x=>bif p x then f s x else s) s
 |[],s=>rfl
 |x::l,s=>by
  rw[List.filter_cons,foldl_cons];cases h:p x with
  |true |false=>simp;exact X7 p f l _
theorem X8 out (p:aR):(ext out p).length<=out.length+1:=by
 unfold ext;cases out.getLast? with
 |none=>simp
 |some q=>simp;cases q.to==p.from_<;>simp<;>omega
theorem X9(a b:List aR):(lO a b).length<=2*(a.length+b.length):=by have h:=pz (kr (λ a b=>decide (a<b)) ((a++b).flatMap λr=>[r.from_,r.to]));rw[bZ,Pb,dQ]at h;exact h
theorem Z6(keep:Bool->Bool->Bool)(a b:List aR):(uX keep a b).length<=2*(a.length+b.length):=by
 have gen:∀(ys out:List aR),(ys.foldl ext out).length<=out.length+ys.length:=by
  intro ys
  induction ys with
  |nil=>intro out;simp
  |cons y ys ih=>
   intro out;simp;have:=ih (ext out y);have:=X8 out y;omega
 have h:=gen ((jJ aR.mk (lO a b)).filter λp=>keep (js a p.from_) (js b p.from_)) [];have h2:=length_filter_le (λ p=>keep (js a p.from_) (js b p.from_)) (jJ aR.mk (lO a b));have h3:=(sS aR.mk (lO a b)).1;have h4:=X9 a b;simp at h;unfold uX;omega
theorem afG{keep:Bool->Bool->Bool}{φ:(Bool×Bool×Unit)->Option Bool}(hφ:∀p q,φ (p,q,())=some (keep p q)){a b:List aR}(ha:Can a)(hb:Can b)(hl:a.length+b.length<1099511627)(hn:2*(a.length+b.length)+2<n):Jd n a b φ=some (uX keep a b):=by
 have fl:[a,b].flatten=a++b:=by simp
 have s2:(sub ([a,b]:List (List aR)) 0 2)=[a,b]:=rfl;have q2:az ([a,b]:List (List aR)).length 2=true:=rfl;have hys:=X9 a b;have hfl:((a++b).flatMap λr=>[r.from_,r.to]).length=2*(a.length+b.length):=by rw[Pb,dQ]
 unfold Jd;rw[s2,q2];simp only[aj];rw[O9 (by rw[fl,dQ];omega) (by simp) (by simp;omega),fl];simp only[ai,length_nil,aH,aj,Ug (l:=a++b) (n:=n) (by rw[dQ];omega) (by rw[dQ];omega)];rw[kS (by rw[hfl];omega) (by rw[hfl];omega)];simp only[ai,bZ,aH,aj];rw[mV (by rw[bZ,hfl];omega) (by rw[bZ,hfl];omega)];simp only[ai];have hE:iM (kr pm ((a++b).flatMap λr=>[r.from_,r.to]))=lO a b:=rfl;rw[hE];have⟨p1,p2⟩:=sS aR.mk (lO a b);have key:iter (xH n a b φ ((),lO a b)) n ((1:Int),([]:List aR))=some (uX keep a b):=by
  have:=dN (l:=jJ aR.mk (lO a b)) (step:=xH n a b φ ((),lO a b)) (λ i (s:List aR)=>(((i+1:Nat):Int),s)) (λ p s=>bif keep (js a p.from_) (js b p.from_)then ext s p else s) (λ s=>s) (λ i s=>s.length<=i)
   (λ i hi s hs=>?_) (λ s hs=>?_) n (by omega) [] (aB _)
  rw[show ((0+1:Nat):Int)=1 from rfl]at this;rw[this,uX,X7];have hi2:i+1<(lO a b).length:=by omega
  have hi1:i<(lO a b).length:=by omega
  have d:decide (((i+1:Nat):Int)<(((lO a b).length:Nat):Int))=true:=by simp;omega
  have wp:i64.wrap ((i+1:Nat) -1)=(i:Nat):=by rw[lF (by omega) (by omega)];rfl
  have pe:(jJ aR.mk (lO a b))[i]=aR.mk (lO a b)[i] (lO a b)[i+1]:=p2 i hi2 hi;rw[pe];have lx:=X8 s (aR.mk (lO a b)[i] (lO a b)[i+1]);have ap:bJ s.length s.length (sub ([(aR.mk (lO a b)[i] (lO a b)[i+1])]:List aR) 0 1).length 1 16=true:=bX (n:=1) (by omega) (by simp[maxLen];omega);have sb:(sub ([(aR.mk (lO a b)[i] (lO a b)[i+1])]:List aR) 0 1)=[aR.mk (lO a b)[i] (lO a b)[i+1]]:=rfl;refine⟨?_,by cases keep (js a (lO a b)[i]) (js b (lO a b)[i])<;>simp<;>omega⟩;simp only[xH,d,aj,wp,aZ hi1,bK hi1,ai,O8 (n:=n) ha (show a.length<1099511627776 by omega) (show a.length<n by omega),O8 (n:=n) hb (show b.length<1099511627776 by omega) (show b.length<n by omega),hφ];cases hk:keep (js a (lO a b)[i]) (js b (lO a b)[i])with
  |false=>
   simp only[Bool.not_false,aj,aH,ai,au];rw[aL (by omega)]
  |true=>
   simp only[Bool.not_true,au,aj];rcases List.eq_nil_or_concat s with rfl |⟨s0,q,Ks⟩;have d0:decide ((([]:List aR).length:Nat)>0)=false:=(by simp);simp only[d0,au,ai,aZ hi2,bK hi2,aj,ap,eu,aH];rw[aL (by omega)];rfl;rw[List.concat_eq_append]at Ks;subst Ks;have d0:decide (((((s0++[q]).length:Nat):Int))>0)=true:=(by simp<;>omega);have C0:(s0++[q]).length=s0.length+1:=(by simp);have wq:i64.wrap (((s0++[q]).length:Nat) -1)=(s0.length:Nat):=(by rw[lF (by simp) (by omega),C0];rfl);have Wk:cP (s0.length:Nat) (s0++[q]).length=true:=aZ (by omega);have g:bj (s0++[q]) ((0:Nat)+(s0.length:Nat))=some q:=(by rw[EU];simp);have z:(((0:Nat):Int)+(s0.length:Nat)).toNat=s0.length:=(by simp);have st:(s0++[q]).set s0.length (aR.mk q.from_ (lO a b)[i+1])=s0++[⟨q.from_,(lO a b)[i+1]⟩]:=(by simp);simp only[d0,aj,wq,Wk,g,ai,ah7];cases hj:q.to==(lO a b)[i]with
   |true=>
    simp only[aj,aZ hi2,bK hi2,ai,z,st];have e:az (s0++[q]).length (s0++[(⟨q.from_,(lO a b)[i+1]⟩:aR)]).length=true:=(by simp);simp only[e,aj,ai,aH];rw[aL (by omega)]
   |false=>
    rw[sb]at ap;simp only[au,aZ hi2,bK hi2,ai,aj,sb,ap,eu,aH];rw[aL (by omega)]
  have d:decide ((((jJ aR.mk (lO a b)).length+1:Nat):Int)<((lO a b).length:Nat))=false:=by simp;omega
  simp only[xH,d,au,aH,aj]
 rw[key];simp
theorem DI(keep:Bool->Bool->Bool)(a b:List ax):rU keep a b=(bq (a++b)).map λs=>⟨s.x0,s.x1,uX keep (dm a s.x0) (dm b s.x0)⟩:=by
 have gen:∀es:List Int,jJ (λ x x'=>(⟨x,x',uX keep (dm a x) (dm b x)⟩:bR)) es=(jJ (λ x x'=>(⟨x,x',dm (a++b) x⟩:bR)) es).map λs=>⟨s.x0,s.x1,uX keep (dm a s.x0) (dm b s.x0)⟩:=by
  intro es
  match es with
  |[] |[_]=>rfl
  |x::y::l=>
   rw[qX,qX,bG];congr 1;have:∀es:List Int,jJ (λ x x'=>(⟨x,x',uX keep (dm a x) (dm b x)⟩:bR)) es=(jJ (λ x x'=>(⟨x,x',dm (a++b) x⟩:bR)) es).map λs=>⟨s.x0,s.x1,uX keep (dm a s.x0) (dm b s.x0)⟩:=by
    intro es
    induction es with
    |nil=>rfl
    |cons x es ih=>
     cases es with
     |nil=>rfl
     |cons y es=>rw[qX,qX,bG,ih]
   exact this (y::l)
 exact gen (gY (a++b))
theorem Z7{keep:Bool->Bool->Bool}{φ:(Bool×Bool×Unit)->Option Bool}(hφ:∀p q,φ (p,q,())=some (keep p q)){a b:List ax}(ha:a.length<1099511627776)(hb:b.length<1099511627776)(hna:a.length<n)(hnb:b.length<n)(hn:1000<=n):Ff n a b φ=some (uY keep a b):=by
 unfold Ff uY;rw[jk ha hna hn,ai];cases hra:c7 a with
 |false=>rfl
 |true=>
  rw[jk hb hnb hn];simp;cases hrb:c7 b with
  |false=>rfl
  |true=>
   have⟨a1,a2,_⟩:=uW hra;have⟨b1,b2,_⟩:=uW hrb;have fa:[a].flatten=a:=(by simp);have fb:[b].flatten=b:=(by simp);have fab:[a,b].flatten=a++b:=(by simp);have hab:∀r∈a++b,fx r=true:=λr hr=>(by rcases bP.1 hr with hr |hr;exact a1 r hr;exact b1 r hr);have sa:pG n [a]=some (bq a):=by
    have:=yM (n:=n) (ls:=[a]) (by rw[fa];exact a1) (by rw[fa];omega) (by simp) (by rw[fa];omega) (by simp;omega)
    rwa [fa]at this
   have sb:pG n [b]=some (bq b):=by
    have:=yM (n:=n) (ls:=[b]) (by rw[fb];exact b1) (by rw[fb];omega) (by simp) (by rw[fb];omega) (by simp;omega)
    rwa [fb]at this
   have lab:(a++b).length=a.length+b.length:=dQ;have sab:pG n [a,b]=some (bq (a++b)):=by
    have:=yM (n:=n) (ls:=[a,b]) (by rw[fab];exact hab) (by rw[fab,lab];omega) (by simp) (by rw[fab,lab];omega) (by simp;omega)
    rwa [fab]at this
   have e1:(sub ([a]:List (List ax)) 0 1)=[a]:=rfl;have e2:(sub ([b]:List (List ax)) 0 1)=[b]:=rfl;have e3:(sub ([a,b]:List (List ax)) 0 2)=[a,b]:=rfl;have q1:az ([a]:List (List ax)).length 1=true:=rfl;have q2:az ([b]:List (List ax)).length 1=true:=rfl;have q3:az ([a,b]:List (List ax)).length 2=true:=rfl;have la:=uV a;have lb:=uV b;have lS:=uV (a++b);rw[lab]at lS;have mc:∀x,(dm a x).length<=200/\(dm b x).length<=200:=λx=>⟨Nat.le_trans (zI a x) a2,Nat.le_trans (zI b x) b2⟩;have lm:∀x,(uX keep (dm a x) (dm b x)).length<=800:=λx=>(by have:=Z6 keep (dm a x) (dm b x);have:=mc x;omega);have key:iter (rP n φ (bq a) (bq b) (bq (a++b))) n ((0:Int),bq (a++b))=some (rU keep a b):=by
    have:=iJ (step:=rP n φ (bq a) (bq b) (bq (a++b))) (λ i=>((i:Int),(rU keep a b).take i++(bq (a++b)).drop i)) (bq (a++b)).length (rU keep a b) (λ i hi=>?_) ?_ n (by omega);simpa using this;have d:decide ((i:Int)<(((bq (a++b)).length:Nat):Int))=true:=(by simpa using hi);have lc:(rU keep a b).length=(bq (a++b)).length:=(by rw[DI,length_map]);have lt:((rU keep a b).take i).length=i:=(by rw[length_take];omega);have hd:(bq (a++b)).drop i=(bq (a++b))[i]::(bq (a++b)).drop (i+1):=List.drop_eq_getElem_cons hi;have g:bj ((rU keep a b).take i++(bq (a++b)).drop i) (((0:Nat):Int)+(i:Nat))=some (bq (a++b))[i]:=(by rw[EU,qD (by omega),lt,hd];simp);have st:∀s:bR,((rU keep a b).take i++(bq (a++b)).drop i).set i s=(rU keep a b).take i++s::(bq (a++b)).drop (i+1):=(by intro s;rw[List.set_append_right _ _ (by omega),lt,hd,Nat.sub_self];rfl);have z:(((0:Nat):Int)+(i:Nat)).toNat=i:=(by simp);have tk:(rU keep a b).take (i+1)=(rU keep a b).take i++[⟨(bq (a++b))[i].x0,(bq (a++b))[i].x1,uX keep (dm a (bq (a++b))[i].x0) (dm b (bq (a++b))[i].x0)⟩]:=(by rw[iR (by omega)];congr 2;simp[DI]);have hm:=mc (bq (a++b))[i].x0;have mg:Jd n (dm a (bq (a++b))[i].x0) (dm b (bq (a++b))[i].x0) φ=some (uX keep (dm a (bq (a++b))[i].x0) (dm b (bq (a++b))[i].x0)):=
     afG hφ (O5 a1 _).1 (O5 b1 _).1 (by omega) (by omega)
    have at1:XR n (bq a) (bq (a++b))[i].x0=some (dm a (bq (a++b))[i].x0):=(by rw[afF (Jq a) (by omega) (by omega),LZ]);have at2:XR n (bq b) (bq (a++b))[i].x0=some (dm b (bq (a++b))[i].x0):=(by rw[afF (Jq b) (by omega) (by omega),LZ]);simp only[rP,d,aj,aZ hi,g,ai,dO,at1,at2,mg,aH,z,st];rw[aL (by omega),tk,aT];rfl;have lc:(rU keep a b).length=(bq (a++b)).length:=(by rw[DI,length_map]);have d:decide (((bq (a++b)).length:Nat)<((bq (a++b)).length:Nat))=false:=(by simp);simp[rP,d,au,List.drop_length,List.append_nil];rw[take_of_length_le (by omega)]
   have lc:(rU keep a b).length=(bq (a++b)).length:=(by rw[DI,length_map]);have cc:∀s∈rU keep a b,s.column.length<=800:=(by intro s hs;rw[DI,mem_map]at hs;obtain⟨t,_,rfl⟩:=hs;exact lm _);have sl:sub (rU keep a b) 0 (bq (a++b)).length=rU keep a b:=(by rw[<- lc,dO]);simp[Bool.not_true,au,e1,e2,e3,q1,q2,q3,aj,sa,sb,sab,ai,dO,aH,key,sl,lc];rw[Tq (b:=800) (by omega) (by omega) cc (by omega) (by omega)];simp[ai,zw,if_true];by_cases sB:(oI (rU keep a b)).length>200;have:decide (((oI (rU keep a b)).length:Int)>200)=true:=(by simp;omega);simp[this,aj,ai,sB,if_true];have:decide (((oI (rU keep a b)).length:Int)>200)=false:=(by simp;omega);simp[this,au,ai,sB,if_false]
theorem adn{a b:List ax}(ha:a.length<1099511627776)(hb:b.length<1099511627776)(hna:a.length<n)(hnb:b.length<n)(hn:1000<=n):Ku n a b=some (uY (λ p q=>p&&q) a b):=by unfold Ku;rw[Z7 (keep:=λp q=>p&&q) (λ p q=>by show yE p q=_;unfold yE;cases p<;>rfl) ha hb hna hnb hn];rfl
theorem ado{keep:Bool->Bool->Bool}(a b:List ax):(uY keep a b).1.length<=200:=by unfold uY;split;split;simp;show(oI _).length<=200;omega;simp
def Tt(r:ax):Int:=(r.x1 -r.x0)*(r.y1 -r.y0)
def MJ(l:List ax):Int:=(l.map Tt).sum
theorem Jr{r:ax}(h:fx r=true):0<=Tt r/\Tt r<=1099511627776:=by simp at h;unfold Tt;refine⟨Int.mul_nonneg (by omega) (by omega),?_⟩;have:=Int.mul_le_mul (show r.x1 -r.x0<=1048576 by omega) (show r.y1 -r.y0<=1048576 by omega) (by omega) (by omega);omega
theorem Ya:∀{l:List ax},(∀ r∈l,fx r=true)->0<=MJ l/\MJ l<=1099511627776*l.length
 |[],_=>by simp[MJ]
 |r::l,h=>by
  have h1:=Jr (h r List.mem_cons_self);have h2:=Ya (l:=l) λq hq=>h q (d9 _ hq);have e:MJ (r::l)=Tt r+MJ l:=rfl;rw[e,eD]
  push_cast
  omega
theorem Js{l:List ax}{φ:(ax×Unit)->Option Bool}(p:ax->Bool)(h:∀x∈l,φ (x,())=some (p x))(hl:l.length<1099511627776)(hn:l.length<n):uR n l φ=some (yu p l):=fK p h hl hn
theorem tK{l:List ax}{φ:(ax×Unit)->Option Bool}(p:ax->Bool)(h:∀x∈l,φ (x,())=some (p x))(hl:l.length<1099511627776)(hn:l.length<n):ji n l φ=some (l.any p):=by unfold ji;rw[Js p h hl hn,ai,rY]
theorem abU:∀(l:List Int) x,(l++[x]).sum=l.sum+x
 |[],x=>by simp
 |a::l,x=>by rw[List.cons_append,List.sum_cons,List.sum_cons,abU l x];omega
theorem ak1{r:ax}(h:fx r=true):zA r=some (Tt r):=by have hb:=Jr h;unfold zA yV;rw[jI,h];simp;simp at h;unfold Tt at*;rw[dw (x:=r.x1 -r.x0),dw (x:=r.y1 -r.y0),dw (by omega) (by omega)]
theorem Yb{a:List ax}(ha:a.length<=900)(hn:1000<=n):OL n a=some (bif c7 a then MJ a else 0):=by
 unfold OL;rw[jk (by omega) (by omega) hn];simp;cases hr:c7 a with
 |false=>rfl
 |true=>
  have ok:=(uW hr).1;have:=iJ (step:=Fa a) (λ i=>(MJ (a.take i),(i:Nat))) a.length (MJ a) (λ i hi=>?_) ?_ n (by omega);have e:MJ (a.take 0)=0:=rfl;rw[e,fL]at this;simp[this];have c:decide ((i:Int)<a.length)=true:=by simpa using hi
  have h1:=Ya (l:=a.take i) λr hr=>ok r (List.mem_of_mem_take hr);rw[length_take]at h1;have h2:=Jr (ok _ (getElem_mem hi));have e:MJ (a.take (i+1))=MJ (a.take i)+Tt a[i]:=by rw[iR hi];unfold MJ;rw[map_append];exact abU _ _
  simp only[Fa,c,aj,aQ hi,ai,ak1 (ok _ (getElem_mem hi))];rw[aL (by omega),dw (by omega) (by omega),e];simp[Fa]
theorem Ra{α:Type}(p:α->Bool) l:(match nE p l with |some _=>true |none=>false)=l.any p:=by have:=jP p l;rw[<- this];cases nE p l<;>rfl
def Tb(p q:ax):Bool:=decide (max p.x0 q.x0<min p.x1 q.x1)&&decide (max p.y0 q.y0<min p.y1 q.y1)
def Pi(a b:List ax):Bool:=a.any λp=>b.any λq=>Tb p q
theorem ah8{a b:List ax}(ha:a.length<1099511627776)(hb:b.length<1099511627776)(hna:a.length<n)(hnb:b.length<n):Vt n a b=some (Pi a b):=by
 unfold Vt Pi;rw[tK (λ p=>b.any λq=>Tb p q) (λ p _=>?_) ha hna];rfl;show Fq n p b=_;unfold Fq;rw[tK (λ q=>Tb p q) (λ q _=>?_) hb hnb];rfl;show wQ q p=_;unfold wQ Tb;have e1:max q.x0 p.x0=max p.x0 q.x0:=by omega
 have e2:min q.x1 p.x1=min p.x1 q.x1:=by omega
 have e3:max q.y0 p.y0=max p.y0 q.y0:=by omega
 have e4:min q.y1 p.y1=min p.y1 q.y1:=by omega
 first
  |(cases decide (max p.x0 q.x0<min p.x1 q.x1)<;>rfl)
  |(rw [e1,e2,e3,e4];cases decide (max p.x0 q.x0<min p.x1 q.x1)<;>rfl)
theorem ah9{a b:List ax}(hl:a.length<1099511627776)(hn:a.length<n):Vs n a b=some (decide (a=b)):=by unfold Vs;rw[Dy hl hn];rfl
abbrev xF(a b:ax):Bool:=decide (a.y0<b.y0)
theorem ajO:Go.Sort.SWO xF where
 irrefl x:=by simp[xF]
 trans x y z h1 h2:=by simp only[xF,bF]at *;omega
 ntrans x y z h1 h2:=by simp only[xF,fF]at *;omega
instance:Inhabited ax:=⟨ax.mk 0 0 0 0⟩
theorem KN{l:List ax}{φ:(ax×ax×Unit)->Option Int}(f:ax->ax->Int)(hφ:∀x y,φ (x,y,())=some (f x y))(hf:∀x y,decide (f x y<0)=xF x y)(hl:l.length<1099511627776)(_:l.length<n):vZ n l φ=some (jq xF l):=
 afr f hφ hf ajO hl
structure arH(R:List bR):Prop where
 runs:Runs R
 len:R.length<=200
 col:∀s∈R,Can s.column/\∀q∈s.column,0<=q.from_/\q.from_<q.to/\q.to<=1048576
 xs:∀s∈R,0<=s.x0/\s.x0<s.x1/\s.x1<=1048576
 A6:(R.flatMap λs=>s.column.map (·.from_)).length<=200
theorem aia(p:Nat->Bool)(N:Nat):(nE p (List.range N)=none->(List.range N).any p=false)/\(∀ i,nE p (List.range N)=some i->(List.range N).any p=true):=by refine⟨λ h=>?_,λi h=>?_⟩;rw[<- jP,h];rfl;rw[<- jP,h];rfl
theorem Jt{W O:Type}{step:Int->Option (Int⊕(W⊕O))}(N:Nat)(p:Nat->Bool)(w:W)(o:O)
 (h:∀i,i<N->step i=some (bif p i then .inr (.inr o)else .inl (i+1:Nat)))
 (hend:step N=some (.inr (.inl w))) (n:Nat) (hn:N<n):iter step n 0=some (bif (List.range N).any p then .inr o else .inl w):=by
 have:=kz (l:=List.range N) (step:=step) (λ i=>(i:Nat)) p w (λ _=>o) (λ i hi=>by rw[List.length_range]at hi;rw[List.getElem_range];exact h i hi) (by rw[List.length_range];exact hend) n (by rw[List.length_range];exact hn);rw[fL]at this;rw[this];have⟨r1,r2⟩:=aia p N;cases hf:nE p (List.range N)with
 |none=>rw[r1 hf];rfl
 |some i=>rw[r2 i hf];rfl
theorem Ju{p:List dY}(hl:p.length<=1000)(hn:2000<=n):iter (qO n p (fZ p)) n 0=some (bif (List.range p.length).any (M2 p)then .inr false else .inl ()):=by
 refine Jt p.length (M2 p) () false (λ i hi=>?_) ?_ n (by omega);have nz:((p.length:Int) !=0)=true:=by simp;intro h;rw[h]at hi;simp at hi
 have md:(i+1)%p.length<p.length:=Nat.mod_lt _ (by omega);have w:i64.wrap (i+1)=(i+1:Nat):=aL (by omega);have g1:bj (fZ p) ((0:Nat)+(i:Nat))=some (jl p i):=by rw[bK (by rw[dV];exact hi),zJ]
 have g2:bj (fZ p) ((0:Nat)+((i+1)%p.length:Nat))=some (jl p ((i+1)%p.length)):=by rw[bK (by rw[dV];exact md),zJ]
 obtain⟨r,hr1,hr2⟩:=MH (n:=n) (ri p 0) (ri p i) (by omega);have g3:bj p 0=some (ri p 0):=by rw[aju (by omega),<- Vy]
 have g4:bj p (i:Nat)=some (ri p i):=by rw[aQ hi,<- Vy]
 have dz:decide ((i:Int)>0)=decide (0<i):=by rw[fB];simp
 have pt:dY.mk (jl p i).mL (jl p i).q7=ri p i:=rfl;simp only[qO,dV,cu hi,aj,aZ hi,g1,g2,ai,nz,w,abS,aZ md,pt,O4,nS,FC,g3,g4,hr1,hr2,dz,Option.map_some];unfold M2;generalize Vz (ri p i)=b1;generalize (((jl p i).mL==(jl p i).nb)==((jl p i).q7==(jl p i).wd))=b2;generalize (wi (jl p i)==wi (jl p ((i+1)%p.length)))=b3;generalize decide (0<i)=b4;generalize VA (ri p 0) (ri p i)=b5;cases b1<;>cases b2<;>cases b3<;>cases b4<;>cases b5<;>rfl;simp[qO,dV]
theorem Jv{p:List dY}(hl:p.length<=1000)(hn:2000<=n){i:Nat}(hi:i<p.length):
 iter (iY (fZ p) (i:Nat)) n ((i+2:Nat))=some (bif (List.range p.length).any λk=>decide (i+2<=k)&&Uf p i k then .inr (.inr (.inr false))else .inl ()):=by
 have st:∀k,k<p.length->iY (fZ p) (i:Nat) (k:Nat)=some (bif Uf p i k then .inr (.inr (.inr (.inr false)))else .inl (k+1:Nat)):=by
  intro k hk;have g1:bj (fZ p) ((0:Nat)+(i:Nat))=some (jl p i):=by rw[bK (by rw[dV];exact hi),zJ]
  have g2:bj (fZ p) ((0:Nat)+(k:Nat))=some (jl p k):=by rw[bK (by rw[dV];exact hk),zJ]
  have w:i64.wrap (i64.wrap ((i:Nat)+(p.length:Nat)) -(k:Nat))=(i+p.length -k:Nat):=by rw[dw (x:=(i:Nat)+(p.length:Nat)),dw (by omega) (by omega)];omega
  have dz:decide (((i+p.length -k:Nat):Int)>1)=decide (i+p.length -k>1):=by rw[fB,bF,bF];omega
  simp only[iY,dV,cu hk,aj,aZ hi,aZ hk,g1,g2,ai,w,dz,DF,FC,Option.map_some,bf k];unfold Uf;cases decide (i+p.length -k>1)<;>cases Tu (jl p i) (jl p k)<;>rfl
 have main:∀m k,k+m=p.length->∀f,m<f->iter (iY (fZ p) (i:Nat)) f (k:Nat)=some (bif (List.range p.length).any λj=>decide (k<=j)&&Uf p i j then .inr (.inr (.inr false))else .inl ()):=by
  intro m
  induction m with
  |zero=>
   intro k hk f hf;obtain⟨f,rfl⟩:∃g,f=g+1:=⟨f -1,by omega⟩;have:k=p.length:=(by omega);subst this;have e:((List.range p.length).any λj=>decide (p.length<=j)&&Uf p i j)=false:=(by rw[Bool.eq_false_iff];intro h;rw[any_eq_true]at h;obtain⟨j,h1,h2⟩:=h;rw[List.mem_range]at h1;simp at h2;omega);rw[e];refine fI ?_;simp[iY,dV]
  |succ m ih=>
   intro k hk f hf;obtain⟨f,rfl⟩:∃g,f=g+1:=⟨f -1,by omega⟩;have hkl:k<p.length:=(by omega);have h1:=st k hkl;cases hb:Uf p i k with
   |true=>
    rw[hb]at h1;have e:((List.range p.length).any λj=>decide (k<=j)&&Uf p i j)=true:=(by rw[any_eq_true];exact⟨k,List.mem_range.2 hkl,by simp[hb]⟩);rw[e];exact fI h1
   |false=>
    rw[hb]at h1;rw[jL h1,ih (k+1) (by omega) f (by omega)];congr 2;rw[fB,any_eq_true,any_eq_true];constructor;rintro⟨j,j1,j2⟩;simp at j2;exact⟨j,j1,by simp;exact⟨by omega,j2.2⟩⟩;rintro⟨j,j1,j2⟩;simp at j2;refine⟨j,j1,?_⟩;simp;refine⟨?_,j2.2⟩;rcases Nat.lt_or_ge k j with h |h;omega;have:j=k:=(by omega);subst this;rw[hb]at j2;simp at j2
 by_cases h2:i+2<=p.length;exact main (p.length -(i+2)) (i+2) (by omega) n (by omega);obtain⟨n,rfl⟩:∃g,n=g+1:=⟨n -1,by omega⟩;have e:((List.range p.length).any λj=>decide (i+2<=j)&&Uf p i j)=false:=by rw[Bool.eq_false_iff];intro h;rw[any_eq_true]at h;obtain⟨j,h1,h2⟩:=h;rw[List.mem_range]at h1;simp at h2;omega
 rw[e];have d:decide (((i+2:Nat):Int)<(p.length:Nat))=false:=by rw[fF];omega
 refine fI ?_;simp only[iY,dV,d,au]
theorem Jw{p:List dY}(hl:p.length<=1000)(hn:2000<=n):iter (qP n (fZ p)) n 0=some (bif (List.range p.length).any λi=>(List.range p.length).any λk=>decide (i+2<=k)&&Uf p i k then .inr false else .inl ()):=by
 refine Jt p.length _ () false (λ i hi=>?_) ?_ n (by omega);have w2:i64.wrap (i+2)=(i+2:Nat):=by rw[dw (by omega) (by omega)];omega
 simp only[qP,dV,cu hi,aj,w2,Jv hl hn hi,bf i];cases (List.range p.length).any λk=>decide (i+2<=k)&&Uf p i k<;>rfl;simp[qP,dV]
theorem Rb p (hn:2000<=n):wM n p=some (Q9 p):=by
 unfold wM Q9;by_cases h4:p.length<4;have d1:decide ((p.length:Int)<4)=true:=by simp;omega
 have d2:decide (4<=p.length)=false:=by simp;omega
 rw[d1,d2];rfl;have d1:decide ((p.length:Int)<4)=false:=by simp;omega
 have d2:decide (4<=p.length)=true:=by simp;omega
 by_cases h60:p.length>60;have d3:decide ((p.length:Int)>60)=true:=by simp;omega
 have d4:decide (p.length<=60)=false:=by simp;omega
 rw[d1,d2,d3,d4];rfl;have d3:decide ((p.length:Int)>60)=false:=by simp;omega
 have d4:decide (p.length<=60)=true:=by simp;omega
 have g:bj (fZ p) ((0:Nat)+0)=some (jl p 0):=by have:=bK (l:=fZ p) (i:=0) (by rw[dV];omega);rw[zJ]at this;exact this
 have i0:cP 0 (fZ p).length=true:=by have:=aZ (i:=0) (n:=(fZ p).length) (by rw[dV];omega);simpa using this
 rw[d1,d2,d3,d4];simp only[au,ai,Bh (n:=n) (p:=p) (by omega) (by omega),Ju (n:=n) (p:=p) (by omega) hn,Bool.true_and];cases (List.range p.length).any (M2 p)with
 |true=>rfl
 |false=>
  simp only[au,iC,Jw (n:=n) (p:=p) (by omega) hn];cases (List.range p.length).any λi=>(List.range p.length).any λk=>decide (i+2<=k)&&Uf p i k with
  |true=>rfl
  |false=>
   simp only[au,iC,i0,aj,g,ai,nS];rfl
def BR(p:List dY)(x:Int):List Int:=((fZ p).filter λs=>!wi s&&(decide (min s.mL s.nb<=x)&&decide (x<max s.mL s.nb))).map (·.q7)
def Gl(x0 x1:Int):List Int->List ax
 |a::b::l=>⟨x0,a,x1,b⟩::Gl x0 x1 l
 |_=>[]
def pg(p:List dY):List Int:=ZU (p.map (·.x))
def Yc(p:List dY):List ax:=(jJ (λ a b=>Gl a b (kr pm (BR p a))) (pg p)).flatten
def yN(p:List dY):List ax×Int:=if Q9 p=true then(if (Yc p).length>200 then([],6)else(Yc p,0))else([],10)
theorem aib{p:List dY}(h:Q9 p=true):4<=p.length/\p.length<=60:=by unfold Q9 at h;simp at h;exact⟨h.1,h.2.1⟩
theorem Gw{p:List dY}(hl:p.length<=1000)(hn:2000<=n):iter (mq p) n (0,[])=some (p.map (·.x)):=by
 have:=dN (l:=p) (step:=mq p) (λ i s=>(i,s)) (λ r s=>s++[r.x]) (λ s=>s) (λ i s=>s.length<=i)
  (λ i hi s hs=>?_) (λ s hs=>by simp[mq]) n (by omega) [] (aB _)
 rw[fL]at this;rw[this];have gen:∀(ys:List dY) s,ys.foldl (λ s r=>s++[r.x]) s=s++ys.map (·.x):=by
  intro ys
  induction ys with
  |nil=>intro s;simp
  |cons y ys ih=>intro s;rw[foldl_cons,ih];simp
 congr 1;simpa using gen p [];have ap:bJ s.length s.length (sub ([(p[i]).x]:List Int) 0 1).length 1 8=true:=bX (n:=1) (by omega) (by simp[maxLen];omega);simp only[mq,cu hi,aj,aQ hi,ai,ap,eu,aH];refine⟨?_,by simp;omega⟩;rw[aL (by omega)];rfl
theorem Gx{p:List dY}(hl:p.length<=1000)(hn:2000<=n) es (i:Nat) (hi:i<es.length):iter (mD ((),es) (fZ p) (i:Nat)) n (0,[])=some (BR p es[i]):=by
 have:=dN (l:=fZ p) (step:=mD ((),es) (fZ p) (i:Nat)) (λ i s=>(i,s)) (λ r s=>bif !wi r&&(decide (min r.mL r.nb<=es[i])&&decide (es[i] <max r.mL r.nb))then s++[r.q7]else s) (λ s=>s) (λ i s=>s.length<=i)
  (λ j hj s hs=>?_) (λ s hs=>by simp[mD]) n (by rw[dV];omega) [] (aB _)
 rw[fL]at this;rw[this];have gen:∀(ys:List jM) s,ys.foldl (λ s r=>bif !wi r&&(decide (min r.mL r.nb<=es[i])&&decide (es[i] <max r.mL r.nb))then s++[r.q7]else s) s=s++(ys.filter λs=>!wi s&&(decide (min s.mL s.nb<=es[i])&&decide (es[i] <max s.mL s.nb))).map (·.q7):=by
  intro ys
  induction ys with
  |nil=>intro s;simp
  |cons y ys ih=>
   intro s;rw[foldl_cons,ih,List.filter_cons];cases !wi y&&(decide (min y.mL y.nb<=es[i])&&decide (es[i] <max y.mL y.nb))<;>simp
 congr 1;exact gen (fZ p) [];rw[dV]at hj;have g:bj (fZ p) ((0:Nat)+(j:Nat))=some (fZ p)[j]:=bK (by rw[dV];exact hj);have ap:bJ s.length s.length (sub ([((fZ p)[j]'(by rw[dV];exact hj)).q7]:List Int) 0 1).length 1 8=true:=bX (n:=1) (by omega) (by simp[maxLen];omega);generalize hr:(fZ p)[j]'(by rw[dV];exact hj)=r at*;simp only[mD,dV,cu hj,aj,aZ hj,g,ai,nS,aZ hi,bK hi,FC,ap,eu,aH,bf j];cases wi r<;>cases decide (min r.mL r.nb<=es[i])<;>cases decide (es[i] <max r.mL r.nb)<;>refine⟨rfl,?_⟩<;>simp<;>omega
theorem abV(x0 x1:Int):∀l:List Int,(Gl x0 x1 l).length<=l.length
 |[] |[_]=>by simp[Gl]
 |a::b::l=>by have:=abV x0 x1 l;simp[Gl];omega
theorem Gy es (i:Nat) (hi:i+1<es.length) (he:es.length<=10000) (w2 r8:List Int) (hw:w2.length=r8.length) (hr:r8.length<=1000) out (ho:out.length<=10000000) (hn:2000<=n):
 iter (jB ((),es) (i:Nat) w2 r8) n (0,out)=some (out++Gl (es[i]'(by omega)) es[i+1] r8):=by
 have main:∀(m k:Nat) out,k+m=r8.length->out.length<=10000000+k->∀f,m<f->iter (jB ((),es) (i:Nat) w2 r8) f ((k:Nat),out)=some (out++Gl (es[i]'(by omega)) es[i+1] (r8.drop k)):=by
  intro m
  induction m using Nat.strongRecOn with
  |ind m ih=>
   intro k out hk hko f hf;obtain⟨f,rfl⟩:∃g,f=g+1:=⟨f -1,by omega⟩;have w1:i64.wrap (k+1)=(k+1:Nat):=aL (by omega);have w3:i64.wrap (k+2)=(k+2:Nat):=(by rw[dw (by omega) (by omega)];omega);have w4:i64.wrap (i+1)=(i+1:Nat):=aL (by omega);by_cases h2:k+1<r8.length;have d:decide (((k+1:Nat):Int)<(w2.length:Nat))=true:=(by rw[hw];exact cu h2);have ap:bJ out.length out.length (sub ([(ax.mk (es[i]'(by omega)) (r8[k]'(by omega)) es[i+1] r8[k+1])]:List ax) 0 1).length 1 32=true:=bX (n:=1) (by omega) (by simp[maxLen];omega);have st:jB ((),es) (i:Nat) w2 r8 ((k:Nat),out)=some (.inl ((k+2:Nat),out++[ax.mk (es[i]'(by omega)) (r8[k]'(by omega)) es[i+1] r8[k+1]])):=(by simp only[jB,w1,w3,w4,d,aj,aZ (show i<es.length by omega),bK (show i<es.length by omega),ai,aZ (show k<w2.length by omega),bK (show k<r8.length by omega),aZ hi,bK hi,aZ (show k+1<w2.length by omega),bK h2,ap,eu,aH];rfl);have dr:r8.drop k=r8[k]::r8[k+1]::r8.drop (k+2):=(by rw[List.drop_eq_getElem_cons (by omega),List.drop_eq_getElem_cons h2]);rw[jL st,ih (m -2) (by omega) (k+2) _ (by omega) (by rw[dQ,List.length_singleton];omega) f (by omega),dr];simp[Gl];have d:decide (((k+1:Nat):Int)<(w2.length:Nat))=false:=(by rw[hw,fF];omega);have e:Gl (es[i]'(by omega)) es[i+1] (r8.drop k)=[]:=by
    have hl:(r8.drop k).length<=1:=by rw[length_drop];omega
    match r8.drop k,hl with
    |[],_ |[_],_=>rfl
    |_::_::_,h=>simp at h
   rw[e,List.append_nil];refine fI ?_;simp only[jB,w1,d,au,aH,aj]
 have:=main r8.length 0 out (by omega) (by omega) n (by omega);rw[fL,List.drop_zero]at this;exact this
theorem ao1 p:(pg p).length<=p.length:=by have h:=pz (kr pm (p.map (·.x)));rw[bZ,length_map]at h;exact h
theorem Yd p x:(BR p x).length<=p.length:=by unfold BR;rw[length_map,<- dV p];exact length_filter_le _ _
theorem Jy{α:Type}(b:Nat):∀l:List (List α),(∀ x∈l,x.length<=b)->l.flatten.length<=l.length*b
 |[],_=>by simp
 |x::l,h=>by have h1:=Jy b l λy hy=>h y (d9 _ hy);have h2:=h x List.mem_cons_self;rw[List.flatten_cons,dQ,eD,Nat.add_mul];omega
theorem Gz{p:List dY}(hl:p.length<=1000)(hn:2000<=n):
 iter (mE n ((),pg p) (fZ p)) n (0,[])=some (Yc p):=by
 have hx:=ao1 p;obtain⟨p1,p2⟩:=sS (λ a b=>Gl a b (kr pm (BR p a))) (pg p)
 let C:=jJ (λ a b=>Gl a b (kr pm (BR p a))) (pg p)
 have hC:C.length=(pg p).length -1:=p1;have cl:∀c∈C,c.length<=1000:=by intro c hc;obtain⟨i,hi,rfl⟩:=mem_iff_getElem.1 hc;have:=p2 i (by omega) hi;show(C[i]).length<=1000;rw[show C[i]=_ from this];have h1:=abV (pg p)[i] (pg p)[i+1] (kr pm (BR p (pg p)[i]));rw[bZ]at h1;have h2:=Yd p (pg p)[i];omega
 have bl:∀i,((C.take i).flatten).length<=1000*1000:=by
  intro i;have h1:=Jy 1000 (C.take i) λx hx=>cl x (List.mem_of_mem_take hx);have h2:(C.take i).length<=1000:=by rw[length_take];omega
  exact Nat.le_trans h1 (Nat.mul_le_mul_right _ h2)
 have main:=iJ (step:=mE n ((),pg p) (fZ p)) (λ i=>((i:Nat),(C.take i).flatten)) C.length (Yc p) (λ i hi=>?_) ?_ n (by omega);simpa using main;have hi2:i+1<(pg p).length:=by omega
 have hw:i64.wrap (((pg p).length:Nat) -1)=(C.length:Nat):=by rw[dw (by omega) (by omega)];omega
 have bi:=bl i;have cr:=Yd p (pg p)[i];have e:C.take (i+1)=C.take i++[Gl (pg p)[i] (pg p)[i+1] (kr pm (BR p (pg p)[i]))]:=by rw[iR hi];congr 2;exact p2 i hi2 hi
 simp only[mE,hw,cu hi,aj,length_nil,aH,Gx hl hn (pg p) i (by omega),ai];rw[kS (by omega) (by omega)];simp;rw[Gy (pg p) i hi2 (by omega) (BR p (pg p)[i]) (kr pm (BR p (pg p)[i])) (by rw[bZ]) (by rw[bZ];omega) _ (by omega) hn];simp[e,bf i];have hw:i64.wrap (((pg p).length:Nat) -1)=((pg p).length:Nat) -1:=dw (by omega) (by omega);have d:decide ((C.length:Int)<((pg p).length:Nat) -1)=false:=by rw[fF];omega
 simp[mE,hw,d];rfl
theorem Pd p (hn:2000<=n):uM n p=some (yN p):=by
 unfold uM yN;rw[Rb p hn];simp;cases hr:Q9 p with
 |false=>rfl
 |true=>
  have⟨_,hl⟩:=aib hr;simp[Gw (n:=n) (p:=p) (by omega) hn];rw[kS (by rw[length_map];omega) (by rw[length_map];omega)];simp[bZ];rw[mV (by rw[bZ,length_map];omega) (by rw[bZ,length_map];omega)];simp[Bh (n:=n) (p:=p) (by omega) (by omega)];have hE:iM (kr pm (p.map (·.x)))=pg p:=rfl;rw[hE,Gz (by omega) hn];simp;by_cases sB:(Yc p).length>200;have:decide ((((Yc p).length:Nat):Int)>200)=true:=by simp;omega
  rw[this,aU sB];rfl;have:decide ((((Yc p).length:Nat):Int)>200)=false:=by simp;omega
  rw[this,aP sB];rfl
theorem afI p:(yN p).1.length<=200:=by unfold yN;split;split;simp;simp;omega;simp
def GC(a b:ax):Int:=bif(!fx a || !fx b)then -1 else max (max 0 (i64.wrap ((max a.x0 b.x0) -(min a.x1 b.x1)))) (i64.wrap ((max a.y0 b.y0) -(min a.y1 b.y1)))
theorem afJ(a b:ax):OF a b=some (GC a b):=by unfold OF GC;rw[jI,jI];simp only[ai];cases fx a<;>cases fx b<;>rfl
def At(a b:List ax):Int×Bool:=
 bif(decide (a=[]) || (decide (b=[]) || (!c7 a || !c7 b)))then(0,false)else(a.foldl (λ m x=>b.foldl (λ m y=>min m (GC x y)) m) 1048576,true)
theorem Z8{b:List ax}(hb:b.length<1099511627776)(hn:b.length<n)(x:ax)(m:Int):iter (Dt b x) n (m,(0:Int))=some (b.foldl (λ m y=>min m (GC x y)) m):=by
 have:=gq (l:=b) (step:=Dt b x) (λ i (s:Int)=>(s,(i:Int))) (λ y m=>min m (GC x y)) (λ s=>s) (λ i hi s=>?_) (λ s=>by simp[Dt]) n hn m
 ·exact this
 ·have hi':decide ((i:Int)<(b.length:Int))=true:=by simpa using hi
  simp only[Dt,hi',aj,aQ hi,ai,afJ];rw[aL (by omega)]
theorem ak2{a b:List ax}(ha:a.length<=900)(hb:b.length<=900)(hn:1000<=n):XQ n a b=some (At a b):=by
 unfold XQ At;have z:∀l:List ax,(((l.length:Int))==0)=decide (l=[]):=λl=>by cases l<;>simp<;>omega
 rw[z a,z b,jk (by omega) (by omega) hn,jk (by omega) (by omega) hn];have loop:(iter (Du n a b) n ((1048576:Int),(0:Int)))=some (a.foldl (λ m x=>b.foldl (λ m y=>min m (GC x y)) m) 1048576):=by
  have:=gq (l:=a) (step:=Du n a b) (λ i (s:Int)=>(s,(i:Int))) (λ x m=>b.foldl (λ m y=>min m (GC x y)) m) (λ s=>s) (λ i hi s=>?_) (λ s=>by simp[Du]) n (by omega) 1048576
  ·exact this
  ·have hi':decide ((i:Int)<(a.length:Int))=true:=(by simpa using hi);simp only[Du,hi',aj,aQ hi,ai];rw[Z8 (by omega) (by omega),ai,aL (by omega)]
 simp only[ai,loop];cases decide (a=[])<;>cases decide (b=[])<;>cases c7 a<;>cases c7 b<;>rfl
def Pc:fE:=fE.mk 0 0 [] []
def dn(land:List fE)(id:Int):fE×Bool:=match land.find? λt=>t.id==id with
 |some t=>(t,true)
 |none=>(Pc,false)
abbrev S8(t:fE):Prop:=t.area.length<=900/\t.from_.length*8<=140737488355328
theorem afL{t:fE}(h:S8 t):Dr t=some t:=by unfold Dr;have hc:yA t.from_=some t.from_:=AP (b:=8) h.2 (by simp[maxLen];omega);rw[Dx (by omega),ai,hc,ai];simp
theorem MK{α:Type}(p:α->Bool) l:(∃ (i:Nat) (h:i<l.length),nE p l=some i/\l.find? p=some l[i])\/(nE p l=none/\l.find? p=none):=by rcases EW p l with ⟨i,hi,h1,h2,h3⟩ |⟨h1,h2⟩;refine .inl ⟨i,hi,h1,?_⟩;rw[List.find?_eq_some_iff_getElem];exact⟨h2,i,hi,rfl,λj hj=>by simpa using h3 j hj⟩;refine .inr ⟨h1,?_⟩;rw[List.find?_eq_none];intro x hx;rw[h2 x hx];simp
theorem ML{land:List fE}{id:Int}(h:∀t∈land,S8 t)(hl:land.length<1099511627776)(hn:land.length<n):qN n land id=some (dn land id):=by
 unfold qN;have:=kz (l:=land) (step:=sO land id) (λ i=>i) (λ t=>t.id==id) () (λ i=>(land.getD i Pc,true)) (λ i hi=>?_) ?_ n hn;rw[fL]at this;rw[this];unfold dn;rcases MK (λ t:fE=>t.id==id) land with ⟨i,hi,h1,h2⟩ |⟨h1,h2⟩;rw[h1,h2];simp[hi];rw[h1,h2];rfl;have hi':decide ((i:Int)<land.length)=true:=by simpa using hi
 simp only[sO,hi',aj,aQ hi,ai,afL (h _ (getElem_mem hi))];cases land[i].id==id with
 |true=>simp[hi]
 |false=>simp only[au];rw[aL (by omega)]
 simp[sO]
def MN(t:fE)(id d:Int)(u:fE):Bool:=(At t.area u.area).2&&(decide ((At t.area u.area).1<=d)&&(u.id !=id))
def Bj(land:List fE)(t:fE)(id d:Int):List Int:=(land.filter λu=>MN t id d u).map (·.id)
def H3(land:List fE)(id d:Int):List Int:=
 bif(dn land id).2 then ZU (Bj land (dn land id).1 id d)else []
theorem Ye{land:List fE}(hl:land.length<10995116277)(hn:land.length<n):iter (zx land) n ((0:Int),([]:List (List ax)))=some (land.map (·.area)):=by
 have:=iJ (step:=zx land) (λ i=>((i:Int),(land.take i).map (·.area))) land.length (land.map (·.area)) (λ i hi=>?_) ?_ n hn
 ·simpa using this
 ·have hi':decide ((i:Int)<(land.length:Int))=true:=by simpa using hi
  have ap:bJ ((land.take i).map (·.area)).length ((land.take i).map (·.area)).length (sub ([land[i].area]:List (List ax)) 0 1).length 1 24=true:=by
   refine bX (n:=1) ?_ ?_
   ·rw[length_map,length_take];omega
   ·rw[length_map,length_take];simp only[maxLen];omega
  simp only[zx,hi',aj,aQ hi,ai,ap,eu,aH];rw[aL (by omega),iR hi,map_append];rfl
 ·simp[zx]
theorem Z9{land:List fE}(h:∀t∈land,t.area.length<=900) id:(dn land id).1.area.length<=900:=by unfold dn;split;rename_i t ht;exact h t (List.mem_of_find?_eq_some ht);simp[Pc]
theorem aid{land:List fE}{id d:Int}(h:∀t∈land,t.area.length<=900)(hF:qN n land id=some (dn land id))(hl:land.length<=100)(hn:1000<=n):OJ n land id d=some (H3 land id d):=by
 unfold OJ H3;rw[hF];simp only[ai];cases hf:(dn land id).2 with
 |false=>rfl
 |true=>
  have ht:=Z9 h id;simp only[Bool.not_true,au,length_nil,aH,aj,Ye (land:=land) (n:=n) (by omega) (by omega),ai];have key:iter (zy n land id d (dn land id) (land.map (·.area))) n ((0:Int),([]:List Int))=some (Bj land (dn land id).1 id d):=by
   have:=dN (l:=land) (step:=zy n land id d (dn land id) (land.map (·.area))) (λ i (s:List Int)=>((i:Int),s)) (λ u s=>bif MN (dn land id).1 id d u then s++[u.id]else s) (λ s=>s) (λ i s=>s.length<=i)
    (λ i hi s hs=>?_) (λ s hs=>by simp[zy]) n (by omega) [] (aB _)
   ·rw[fL]at this;rw[this];have gen:∀(ys:List fE) (s:List Int),ys.foldl (λ s u=>bif MN (dn land id).1 id d u then s++[u.id]else s) s=s++Bj ys (dn land id).1 id d:=by
     intro ys
     induction ys with
     |nil=>intro s;simp[Bj]
     |cons y ys ih=>
      intro s;simp only[foldl_cons,ih,Bj];cases hy:MN (dn land id).1 id d y<;>simp[hy]
    rw[gen];simp
   ·have hlm:(land.map (·.area)).length=land.length:=(by simp);have hi':decide ((i:Int)<(((land.map (·.area)).length:Nat):Int))=true:=(by rw[hlm];simpa using hi);have ib:cP (i:Int) (land.map (·.area)).length=true:=aZ (by omega);have g:bj (land.map (·.area)) (((0:Nat):Int)+(i:Int))=some land[i].area:=(by rw[EU];simp[hi]);have hu:=h _ (getElem_mem hi);have ap:bJ s.length s.length (sub ([land[i].id]:List Int) 0 1).length 1 8=true:=bX (n:=1);have gp:XQ n (dn land id).1.area land[i].area=some (At (dn land id).1.area land[i].area):=ak2 ht hu hn;simp only[zy,hi',aj,ib,g,ai,gp,aQ hi];have e:((bif (At (dn land id).1.area land[i].area).2 then(bif (decide ((At (dn land id).1.area land[i].area).1<=d))then some (land[i].id !=id)else some false)else some false):Option Bool)=some (MN (dn land id).1 id d land[i]):=(by unfold MN;cases (At (dn land id).1.area land[i].area).2<;>cases decide ((At (dn land id).1.area land[i].area).1<=d)<;>rfl);rw[e];simp only[ai];cases MN (dn land id).1 id d land[i]with
    |true=>
     simp only[aj,ap,eu,aH,ai];refine⟨?_,by simp;omega⟩;rw[aL (by omega)];rfl
    |false=>
     simp only[au,aH,aj,ai];exact⟨by rw[aL (by omega)],by omega⟩
  have hlen:(Bj land (dn land id).1 id d).length<=100:=by unfold Bj;rw[length_map];exact Nat.le_trans (length_filter_le _ _) hl
  rw[key];simp only[ai,aH,aj];rw[kS (by omega) (by omega)];simp only[ai,bZ,aH,aj];rw[mV (by rw[bZ];omega) (by rw[bZ];omega)];simp only[ai,dO,aH,aj];rfl
theorem aie{land:List fE}{id d:Int}(h:∀t∈land,S8 t)(hl:land.length<=100)(hn:1000<=n):OJ n land id d=some (H3 land id d):=aid (λ t ht=>(h t ht).1) (ML h (by omega) (by omega)) hl hn
def adq:ByteArray:=⟨#[110,111,116,105,99,101]⟩
def So(t:bQ)(name:ByteArray):Int:=match t.rows.find? λe=>ByteArray.toList e.name==ByteArray.toList name with
 |some e=>e.n
 |none=>t.rK
def HU(tables:List bQ)(name:ByteArray):Int:=match tables.find? λt=>ByteArray.toList t.name==ByteArray.toList adq with
 |some t=>So t name
 |none=>0
theorem FD{α:Type}(p:α->Bool) l:(∃ (i:Nat) (h:i<l.length),yu p l=i/\l.find? p=some l[i])\/(yu p l= -1/\l.find? p=none):=by rcases MK p l with ⟨i,hi,h1,h2⟩ |⟨h1,h2⟩;exact .inl ⟨i,hi,by simp[yu,h1],h2⟩;exact .inr ⟨by simp[yu,h1],h2⟩
theorem abX{p:bO}{name:ByteArray}(h:p.tables.length<n)(hl:p.tables.length<1099511627776)(hr:∀t∈p.tables,t.rows.length<n/\t.rows.length<1099511627776):QW n p name=some (HU p.tables name):=by
 unfold QW HU;rw[vI (λ t=>ByteArray.toList t.name==ByteArray.toList adq) (λ x _=>rfl) hl h];simp only[ai];rcases FD (λ t:bQ=>ByteArray.toList t.name==ByteArray.toList adq) p.tables with ⟨i,hi,h1,h2⟩ |⟨h1,h2⟩
 ·rw[h1,h2];have d:decide ((i:Int)<0)=false:=by simp
  obtain⟨r1,r2⟩:=hr _ (getElem_mem hi);simp only[d,au,aQ hi,ai];rw[vJ (λ e=>ByteArray.toList e.name==ByteArray.toList name) (λ x _=>rfl) r2 r1];simp only[ai,So];rcases FD (λ e:bg=>ByteArray.toList e.name==ByteArray.toList name) p.tables[i].rows with ⟨j,hj,g1,g2⟩ |⟨g1,g2⟩
  ·rw[g1,g2];have d:decide ((j:Int)<0)=false:=(by simp);simp only[d,au,aQ hj,ai]
  ·rw[g1,g2];rfl
 ·rw[h1,h2];rfl
def ij:List ByteArray:=[⟨#[104,111,109,101]⟩,⟨#[115,104,111,112]⟩,⟨#[119,111,114,107]⟩,⟨#[112,97,114,107]⟩,⟨#[112,108,97,110,116]⟩,⟨#[104,97,108,108]⟩]
def nameOf(use:Int):Option ByteArray:=bj ij use
def aqh(tables:List bQ)(m:Int)(v:aF):Int:=match nameOf v.use with
 |some nm=>max m (HU tables nm)
 |none=>m
def anr(tables:List bQ)(m:Int)(ph:lu):Int:=ph.bx.foldl (aqh tables) m
def ant(tables:List bQ)(d:aO):Int:=d.phases.foldl (anr tables) 0
abbrev Ts(ts:List bQ):Prop:=ts.length<=100/\∀t∈ts,t.rows.length<=100
abbrev Yf(d:aO):Prop:=d.phases.length<=100/\∀p∈d.phases,p.bx.length<=100
theorem MO{p:bO}(hp:Ts p.tables){ph:lu}(hv:ph.bx.length<=100)(hn:1000<=n)(m:Int):iter (ql n p ph) n (m,(0:Int))=some (anr p.tables m ph):=by
 have:=gq (l:=ph.bx) (step:=ql n p ph) (λ i (s:Int)=>(s,(i:Int))) (λ v m=>aqh p.tables m v) (λ s=>s) (λ i hi s=>?_) (λ s=>by simp[ql]) n (by omega) m
 ·exact this
 ·have hi':decide ((i:Int)<(ph.bx.length:Int))=true:=by simpa using hi
  have rw1:∀nm,QW n p nm=some (HU p.tables nm):=λnm=>abX (by omega) (by omega) (λ t ht=>by have:=hp.2 t ht;omega);simp only[ql,hi',aj,aQ hi,ai];have e:((bif (decide (ph.bx[i].use>=(0:Int)))then some (decide (ph.bx[i].use<(6:Int)))else some false):Option Bool)=some (cP ph.bx[i].use 6):=by simp only[zH,cP];rfl
  rw[e];simp only[ai,aqh,nameOf];cases hb:cP ph.bx[i].use 6 with
  |true=>
   have hb2:0<=ph.bx[i].use/\ph.bx[i].use<6:=(by simpa[cP]using hb);obtain⟨k,hk⟩:∃k:Nat,ph.bx[i].use=(k:Int):=⟨ph.bx[i].use.toNat,by omega⟩;have hk6:k<ij.length:=(by have:ij.length=6:=rfl;omega);have g:bj ij ph.bx[i].use=some ij[k]:=(by rw[hk];exact aQ hk6);have g':bj ([⟨#[104,111,109,101]⟩,⟨#[115,104,111,112]⟩,⟨#[119,111,114,107]⟩,⟨#[112,97,114,107]⟩,⟨#[112,108,97,110,116]⟩,⟨#[104,97,108,108]⟩]:List ByteArray) ph.bx[i].use=some ij[k]:=g;simp only[aj,g',ai,rw1,g];rw[aL (by omega)]
  |false=>
   have g:bj ij ph.bx[i].use=none:=by
    have hb2:¬(0<=ph.bx[i].use/\ph.bx[i].use<6):=(by intro hc;rw[show cP ph.bx[i].use 6=true by simpa[cP]using hc]at hb;cases hb);by_cases h0:0<=ph.bx[i].use
    ·obtain⟨k,hk⟩:∃k:Nat,ph.bx[i].use=(k:Int):=⟨ph.bx[i].use.toNat,by omega⟩;rw[hk,ES];exact List.getElem?_eq_none (by have:ij.length=6:=rfl;omega)
    ·simp[bj,h0]
   simp only[au,g,ai];rw[aL (by omega)]
theorem Yg{p:bO}(hp:Ts p.tables){d:aO}(hd:Yf d)(hn:1000<=n):xw n p d=some (ant p.tables d):=by
 unfold xw;have:=gq (l:=d.phases) (step:=uz n p d) (λ i (s:Int)=>(s,(i:Int))) (λ ph m=>anr p.tables m ph) (λ s=>s) (λ i hi s=>?_) (λ s=>by simp[uz]) n (by omega) 0
 ·rw[fL]at this;rw[this];rfl
 ·have hi':decide ((i:Int)<(d.phases.length:Int))=true:=by simpa using hi
  simp only[uz,hi',aj,aQ hi,ai];rw[MO hp (hd.2 _ (getElem_mem hi)) hn,ai,aL (by omega)]
theorem aif{p:bO}(hp:Ts p.tables)(hn:1000<=n):OA n p=some (max 0 (HU p.tables ⟨#[100,97,121,115]⟩)):=by unfold OA;rw[abX (by omega) (by omega) (λ t ht=>by have:=hp.2 t ht;omega)];rfl
abbrev Yh(t:eH):Prop:=t.land.length<=100/\(∀ l∈t.land,S8 l)/\Ts t.ct
def anu(a0:eH):bO:=bO.mk a0.cH a0.ct a0.cz a0.aq a0.cQ a0.cV a0.d5 a0.cW
def Bl(t:eH)(d:aO):List Int:=H3 t.land d.lot (ant t.ct d)
def mW(t:eH)(ab:List Int):List Int:=ab.map λid=>(dn t.land id).1.owner
def ads(t:eH)(d:aO):List Int:=ZU (mW t (Bl t d))
theorem Tv l:(ZU l).length<=l.length:=by
 unfold ZU;have:=pz (kr (λ a b=>decide (a<b)) l)
 rwa [bZ]at this
theorem Pe land (id d:Int):(H3 land id d).length<=land.length:=by
 unfold H3;cases (dn land id).2 with
 |true=>
  refine Nat.le_trans (Tv _) ?_;unfold Bj;rw[length_map];exact length_filter_le _ _
 |false=>simp
theorem aii{t:eH}(ht:Yh t){d:aO}(hd:Yf d)(hn:1000<=n):Vr n t d=some (Bl t d):=by unfold Vr;have h1:xw n (bO.mk t.cH t.ct t.cz t.aq t.cQ t.cV t.d5 t.cW) d=some (ant t.ct d):=Yg (p:=anu t) ht.2.2 hd hn;rw[h1,ai,aie ht.2.1 ht.1 hn];simp only[ai,dO,aH,aj];rfl
theorem adt{t:eH}(ht:Yh t){d:aO}(hd:Yf d)(hn:1000<=n):Kt n t d=some (ads t d):=by
 unfold Kt;rw[aii ht hd hn];have hlen:(Bl t d).length<=100:=Nat.le_trans (Pe _ _ _) ht.1;have key:iter (uH n t (Bl t d)) n ((0:Int),([]:List Int))=some (mW t (Bl t d)):=by
  have:=iJ (step:=uH n t (Bl t d)) (λ i=>((i:Int),mW t ((Bl t d).take i))) (Bl t d).length (mW t (Bl t d)) (λ i hi=>?_) ?_ n (by omega)
  ·simpa[mW]using this
  ·have hi':decide ((i:Int)<(((Bl t d).length:Nat):Int))=true:=(by simpa using hi);have ap:bJ (mW t ((Bl t d).take i)).length (mW t ((Bl t d).take i)).length (sub ([(dn t.land (Bl t d)[i]).1.owner]:List Int) 0 1).length 1 8=true:=by
    refine bX (n:=1) ?_ ?_
    ·unfold mW;rw[length_map,length_take];omega
    ·unfold mW;rw[length_map,length_take];simp only[maxLen];omega
   simp only[uH,hi',aj,aZ hi,bK hi,ai];rw[ML ht.2.1 (by have:=ht.1;omega) (by have:=ht.1;omega)];simp only[ai,ap,aj,eu,aH];rw[aL (by omega),iR hi];simp only[mW,map_append];rfl
  ·simp[uH,mW]
 simp only[ai,length_nil,aH,aj,key];have hol:(mW t (Bl t d)).length<=100:=by unfold mW;rw[length_map];exact hlen
 rw[kS (by omega) (by omega)];simp only[ai,bZ,aH,aj];rw[mV (by rw[bZ];omega) (by rw[bZ];omega)];simp only[ai,dO,aH,aj];rfl
theorem Yi{t:eH}(ht:Yh t)(d:aO):(ads t d).length<=100:=by refine Nat.le_trans (Tv _) ?_;unfold mW;rw[length_map];exact Nat.le_trans (Pe _ _ _) ht.1
def HT(t:eH)(d:aO)(eh:Int):Bool:=((ads t d).any λy=>eh==y)&&((dn t.land d.lot).2&&((dn t.land d.lot).1.owner !=eh))
theorem ak5{t:eH}(ht:Yh t){d:aO}(hd:Yf d){eh:Int}(hn:1000<=n):Mx n t d eh=some (HT t d eh):=by unfold Mx HT;have l1:=Yi ht d;rw[ML ht.2.1 (by have:=ht.1;omega) (by have:=ht.1;omega),adt ht hd hn];simp only[ai,dO,aH,aj];rw[zG (by omega) (by omega)];simp only[ai,zH]
theorem afM{V O:Type}{step:V->Option (V⊕O)}(R:Nat->V->Prop)(N:Nat)(Q:O->Prop)(h:∀i v,i<N->R i v->∃v',step v=some (.inl v')/\R (i+1) v')(hN:∀v,R N v->∃o,step v=some (.inr o)/\Q o):
 ∀n,N<n->∀v,R 0 v->∃o,iter step n v=some o/\Q o:=by
 have main:∀k i n v,i+k=N->k<n->R i v->∃o,iter step n v=some o/\Q o:=by
  intro k
  induction k with
  |zero=>
   intro i n v hi hn hR;obtain⟨m,rfl⟩:∃m,n=m+1:=⟨n -1,by omega⟩;have:i=N:=(by omega);subst this;have⟨o,h1,h2⟩:=hN v hR;exact⟨o,fI h1,h2⟩
  |succ k ih=>
   intro i n v hi hn hR;obtain⟨m,rfl⟩:∃m,n=m+1:=⟨n -1,by omega⟩;obtain⟨v',h1,h2⟩:=h i v (by omega) hR;obtain⟨o,h3,h4⟩:=ih (i+1) m v' (by omega) (by omega) h2;exact⟨o,by rw[jL h1,h3],h4⟩
 intro n hn v hR;exact main N 0 n v (by omega) hn hR
def BU(z:fG):List ax:=if (yN z.corners).2=0 then(yN z.corners).1 else []
theorem aij(z:fG):(BU z).length<=200:=by unfold BU;split;exact afI _;simp
theorem Uh(z:fG)(hn:2000<=n):yF n z=some (BU z):=by
 unfold yF BU;rw[Pd _ hn];simp;by_cases h:(yN z.corners).2=0;have:((yN z.corners).2 !=0)=false:=by simp[h]
 rw[this,aU h];rfl;have:((yN z.corners).2 !=0)=true:=by simp[h]
 rw[this,aP h];rfl
def Gm(a b:ax):ax:=⟨max a.x0 b.x0,max a.y0 b.y0,min a.x1 b.x1,min a.y1 b.y1⟩
theorem Pf(a:ax):yV a=some (bif fx a then(a,true)else(⟨0,0,0,0⟩,false)):=by unfold yV;rw[jI];simp[FC]
theorem zL(a b:ax):tH a b=some (bif fx a&&(fx b&&fx (Gm a b))then(Gm a b,true)else(⟨0,0,0,0⟩,false)):=by unfold tH;rw[jI,jI];simp only[ai,FC];rw[show ax.mk (max a.x0 b.x0) (max a.y0 b.y0) (min a.x1 b.x1) (min a.y1 b.y1)=Gm a b from rfl,Pf];simp only[ai];generalize fx (Gm a b)=c;cases fx a<;>cases fx b<;>cases c<;>rfl
def Pa(r:ax):Int:=i64.wrap (i64.wrap (r.x1 -r.x0)*i64.wrap (r.y1 -r.y0))
theorem DJ{r:ax}(h:fx r=true):zA r=some (Pa r):=by unfold zA;rw[Pf,h];rfl
def Yj(x:ax)(n:Int)(y:ax):Int:=bif fx x&&(fx y&&fx (Gm x y))then i64.wrap (n+Pa (Gm x y))else n
def FE(a b:List ax):Int:=a.foldl (λ n x=>b.foldl (Yj x) n) 0
theorem ao3{α β:Type} c (a:α) (u v:β):(bif c then(a,u)else(a,v)).1=a:=by cases c<;>rfl
theorem Jz b (x:ax) (hb:b.length<=1000) (hn:2000<=n) (m u v:Int):∃o,iter (qQ n b x) n (m,0,u,v)=some o/\o.1=b.foldl (Yj x) m:=by
 refine afM (λ i (w:Int×Int×Int×Int)=>w.2.1=i/\w.1=(b.take i).foldl (Yj x) m) b.length (λ (o:Int×Int×Int)=>o.1=b.foldl (Yj x) m) (λ i w hi hR=>?_) (λ w hR=>?_) n (by omega) _ ⟨rfl,rfl⟩;obtain⟨w1,w2,w3,w4⟩:=w;obtain⟨h1,h2⟩:=hR;simp at h1 h2;subst h1;have e:(b.take (i+1)).foldl (Yj x) m=Yj x w1 b[i]:=by rw[iR hi,List.foldl_append,<- h2];rfl
 simp only[qQ,cu hi,aj,aQ hi,ai,zL];have e0:Yj x w1 b[i]=bif fx x&&(fx b[i]&&fx (Gm x b[i]))then i64.wrap (w1+Pa (Gm x b[i]))else w1:=rfl;rw[e0]at e;cases hc:fx x&&(fx b[i]&&fx (Gm x b[i]))with
 |false=>
  rw[hc]at e;simp only[au,Bool.not_false,aj,ai];exact⟨_,rfl,aL (by omega),e.symm⟩
 |true=>
  rw[hc]at e;have hcc:fx (Gm x b[i])=true:=by revert hc;generalize fx (Gm x b[i])=c;cases c;cases fx x<;>cases fx b[i]<;>simp;simp
  simp only[aj,Bool.not_true,au,DJ hcc,ai,kR];rw[show ∀u v:Int,sub [u,v] 0 2=[u,v]from λ_ _=>rfl,XZ _ _ (by omega)];simp only[ai,FC];simp only[show ∀u v:Int,az [u,v].length 2=true from λ_ _=>rfl,aj,ai];refine⟨_,rfl,bf i,?_⟩;rw[e];exact ao3 _ _ _ _
 obtain⟨w1,w2,w3,w4⟩:=w;obtain⟨h1,h2⟩:=hR;simp only at h1 h2;subst h1;simp only[qQ,O3,au];exact⟨_,rfl,by rw[h2,List.take_length]⟩
theorem Rc(a b:List ax)(ha:a.length<=1000)(hb:b.length<=1000)(hn:2000<=n):∃q,wO n a b=some (FE a b,q):=by
 unfold wO;obtain⟨o,h1,h2⟩:=afM (step:=qR n a b) (λ i (w:Int×Int×Int×Int)=>w.2.1=i/\w.1=(a.take i).foldl (λ n x=>b.foldl (Yj x) n) 0) a.length (λ (o:Int×Int×Int)=>o.1=FE a b) (λ i w hi hR=>by obtain⟨w1,w2,w3,w4⟩:=w;obtain⟨h1,h2⟩:=hR;simp at h1 h2;subst h1;have⟨o,g1,g2⟩:=Jz (n:=n) b a[i] hb hn w1 w3 w4;obtain⟨o1,o2,o3⟩:=o;simp only[qR,cu hi,aj,aQ hi,ai,g1];refine⟨_,rfl,aL (by omega),?_⟩;simp at g2;rw[iR hi,List.foldl_append,<- h2,g2];rfl) (λ w hR=>by obtain⟨w1,w2,w3,w4⟩:=w;obtain⟨h1,h2⟩:=hR;simp only at h1 h2;subst h1;simp only[qR,O3,au];exact⟨_,rfl,by rw[h2,List.take_length];rfl⟩) n (by omega) (0,0,1048576,0) ⟨rfl,rfl⟩;obtain⟨o1,o2,o3⟩:=o;simp at h2;subst h2;exact⟨_,by rw[h1];rfl⟩
def yO(zs:List fG)(area:List ax):List Int:=bif c7 area then zs.map λz=>FE area (BU z)else []
theorem Rf(p:bO) a (hz:p.zones.length<=100) (ha:a.length<=900) (hn:2000<=n):wP n p a=some (yO p.zones a):=by
 unfold wP yO;rw[jk (by omega) (by omega) (by omega)];simp;cases c7 a with
 |false=>rfl
 |true=>
  have:=dN (l:=p.zones) (step:=qU n p a) (λ i s=>(i,s)) (λ z s=>s++[FE a (BU z)]) (λ s=>s) (λ i s=>s.length<=i)
   (λ i hi s hs=>?_) (λ s hs=>by simp[qU]) n (by omega) [] (aB _)
  rw[fL]at this;simp only[Bool.not_true,au,length_nil,aH,aj,this,ai,dO];congr 1;have gen:∀(ys:List fG) s,ys.foldl (λ s z=>s++[FE a (BU z)]) s=s++ys.map λz=>FE a (BU z):=by
   intro ys
   induction ys with
   |nil=>intro s;simp
   |cons y ys ih=>intro s;rw[foldl_cons,ih];simp
  exact gen p.zones [];have cl:=aij p.zones[i];obtain⟨q,hq⟩:=Rc (n:=n) a (BU p.zones[i]) (by omega) (by omega) hn;have ap:bJ s.length s.length (sub ([FE a (BU p.zones[i])]:List Int) 0 1).length 1 8=true:=bX (n:=1) (by omega) (by simp[maxLen];omega);simp only[qU,cu hi,aj,aQ hi,ai,Uh _ hn,dO,aH,hq,ap,eu];refine⟨?_,by simp;omega⟩;rw[aL (by omega)];rfl
theorem Tw zs a:(yO zs a).length<=zs.length:=by unfold yO;cases c7 a<;>simp
def yg(zs:List fG)(l:List Int)(m:Nat):Int:=(List.range m).foldl (λ b i=>if (!((zs.getD i ⟨⟨#[]⟩,false,[]⟩).overlay)&&(decide (l.getD i 0>0)&&(decide (b<0) || decide (l.getD i 0>l.getD b.toNat 0))))=true then i else b) (-1)
def FH(zs:List fG)(l:List Int)(i:Nat):Bool:=decide (i=yg zs l l.length) || ((zs.getD i ⟨⟨#[]⟩,false,[]⟩).overlay&&decide (l.getD i 0>0))
def Hs(zs:List fG)(area:List ax):List ByteArray:=((List.range (yO zs area).length).filter (FH zs (yO zs area))).map λi=>(zs.getD i ⟨⟨#[]⟩,false,[]⟩).name
theorem Tx zs l:∀m,yg zs l m= -1\/∃k:Nat,k<m/\yg zs l m=k
 | 0=> .inl rfl
 |m+1=>by have ih:=Tx zs l m;unfold yg;rw[List.range_succ,List.foldl_append];simp only[foldl_cons,List.foldl_nil];split;exact .inr ⟨m,by omega,rfl⟩;rcases ih with h |⟨k,h1,h2⟩;exact .inl h;exact .inr ⟨k,by omega,h2⟩
theorem JA{α:Type}{l:List α}{i:Nat}(d:α)(h:i<l.length):l.getD i d=l[i]:=by simp[h]
theorem Rh(p:bO) l (hl:l.length<=p.zones.length) (hz:p.zones.length<=100) (hn:2000<=n):iter (qV p l) n ((-1),0)=some (yg p.zones l l.length):=by
 have main:=iJ (step:=qV p l) (λ i=>(yg p.zones l i,(i:Nat))) l.length (yg p.zones l l.length) (λ i hi=>?_) (by simp[qV]) n (by omega);exact main;have hz':i<p.zones.length:=by omega
 have e:yg p.zones l (i+1)=if (!(p.zones[i]).overlay&&(decide (l[i]>0)&&(decide (yg p.zones l i<0) || decide (l[i]>l.getD (yg p.zones l i).toNat 0))))=true then(i:Int)else yg p.zones l i:=by
  conv=>lhs;unfold yg
  rw[List.range_succ,List.foldl_append];simp only[foldl_cons,List.foldl_nil,JA _ hz',JA _ hi];rfl
 rw[e];rcases Tx p.zones l i with h |⟨k,h1,h2⟩;rw[h];have d:decide (-1<0)=true:=rfl;simp only[qV,cu hi,aj,aZ hi,bK hi,ai,aQ hz',d,FC,Bool.true_or,Bool.and_true,bf i];cases (p.zones[i]).overlay<;>cases decide (l[i]>0)<;>rfl;rw[h2];have d:decide ((k:Nat)<0)=false:=by simp
 have hk:k<l.length:=by omega
 simp only[qV,cu hi,aj,aZ hi,bK hi,ai,aQ hz',d,FC,Bool.false_or,au,aZ hk,bK hk,Int.toNat_natCast,JA _ hk,bf i];cases (p.zones[i]).overlay<;>cases decide (l[i]>0)<;>cases decide (l[i]>l[k])<;>rfl
theorem adu(p:bO) a (hz:p.zones.length<=100) (ha:a.length<=900) (hn:2000<=n):Dw n p a=some (Hs p.zones a):=by
 unfold Dw;have sl:=Tw p.zones a;rw[Rf p a hz ha hn];simp;rw[Rh p _ sl hz hn];simp;unfold Hs;generalize hL:yO p.zones a=l at*
 have:=dN (l:=List.range l.length) (step:=yG p l (yg p.zones l l.length)) (λ i s=>(i,s)) (λ i s=>bif FH p.zones l i then s++[(p.zones.getD i ⟨⟨#[]⟩,false,[]⟩).name]else s) (λ s=>s) (λ i s=>s.length<=i)
  (λ i hi s hs=>?_) (λ s hs=>by rw[List.length_range];simp[yG]) n (by rw[List.length_range];omega) [] (aB _)
 rw[fL]at this;simp[this];congr 1;have gen:∀(ys:List Nat) s,ys.foldl (λ s i=>bif FH p.zones l i then s++[(p.zones.getD i ⟨⟨#[]⟩,false,[]⟩).name]else s) s=s++(ys.filter (FH p.zones l)).map λi=>(p.zones.getD i ⟨⟨#[]⟩,false,[]⟩).name:=by
  intro ys
  induction ys with
  |nil=>intro s;simp
  |cons y ys ih=>
   intro s;rw[foldl_cons,ih,List.filter_cons];cases FH p.zones l y<;>simp
 exact gen (List.range l.length) [];rw[List.length_range]at hi;have hz':i<p.zones.length:=by omega
 rw[List.getElem_range];have ap:bJ s.length s.length (sub ([(p.zones[i]).name]:List ByteArray) 0 1).length 1 16=true:=bX (n:=1) (by omega) (by simp[maxLen];omega);have hb:((i:Nat)==yg p.zones l l.length)=decide ((i:Nat)=yg p.zones l l.length):=by rw[fB];simp
 simp only[yG,cu hi,aj,aZ hi,bK hi,ai,aQ hz',hb,FC,ap,eu,aH,FH,JA _ hz',JA _ hi,bf i];cases decide ((i:Nat)=yg p.zones l l.length)<;>cases (p.zones[i]).overlay<;>cases decide (l[i]>0)<;>refine⟨rfl,?_⟩<;>simp<;>omega
theorem ao4 zs a:(Hs zs a).length<=zs.length:=by unfold Hs;rw[length_map];have h1:=length_filter_le (FH zs (yO zs a)) (List.range (yO zs a).length);rw[List.length_range]at h1;have:=Tw zs a;omega
def fi(a b:ByteArray):Bool:=ByteArray.toList a==ByteArray.toList b
theorem kY{l:List ByteArray}{a:ByteArray}(hl:l.length<1099511627776)(hn:l.length<n):dZ n l a=some (l.any (fi a)):=by
 unfold dZ;have e:sw n l a=ac4 n (λ x=>ByteArray.toList a==ByteArray.toList x) l:=by kernel_rfl
 rw[e,IW hl hn,ai,rY];rfl
theorem q8{l:List ByteArray}{φ:(ByteArray×Unit)->Option Bool}(p:ByteArray->Bool)(h:∀x∈l,φ (x,())=some (p x))(hl:l.length<1099511627776)(hn:l.length<n):fP n l φ=some (l.any p):=by
 unfold fP;have e:rD n l φ=xq n l φ:=by kernel_rfl
 rw[e,fK p h hl hn,ai,rY]
def VB(r:cK)(zs:List ByteArray):Bool:=(decide (r.zones=[]) || r.zones.any λz=>zs.any (fi z))&&!(r.except.any λz=>zs.any (fi z))
theorem Ri(r:cK) zs (h1:r.zones.length<=100) (h2:r.except.length<=100) (h3:zs.length<=100) (hn:2000<=n):rQ n r zs=some (VB r zs):=by
 have hf:∀x:ByteArray,kF n x zs=some (zs.any (fi x)):=λx=>by unfold kF;rw[kY (by omega) (by omega)];rfl
 unfold rQ VB;rw[q8 (λ z=>zs.any (fi z)) (λ x _=>hf x) (by omega) (by omega),q8 (λ z=>zs.any (fi z)) (λ x _=>hf x) (by omega) (by omega)];simp;have e:((r.zones.length:Int)==0)=decide (r.zones=[]):=by rw[fB,beq_iff_eq,bF];constructor;intro h;exact List.length_eq_zero_iff.1 (by omega);intro h;rw[h];rfl
 rw[e];cases decide (r.zones=[])<;>cases (r.zones.any λz=>zs.any (fi z))<;>cases (r.except.any λz=>zs.any (fi z))<;>rfl
def rV(zs:List ByteArray)(day:Int)(r:cK):Bool:=decide (r.from_<=day)&&((r.lh==0 || decide (day<r.lh))&&VB r zs)
def Rj(rules:List cK)(zs:List ByteArray)(day:Int):List Nat:=(List.range rules.length).filter λi=>(rules[i]?).any (rV zs day)
abbrev aik(r:cK):Prop:=r.zones.length<=100/\r.except.length<=100
theorem Ui(p:bO) zs day (hr:∀r∈p.rules,aik r) (hl:p.rules.length<=100) (h3:zs.length<=100) (hn:2000<=n):uN n p zs day=some ((Rj p.rules zs day).map λ(i:Nat)=>(i:Int)):=by
 unfold uN Rj
 have:=dN (l:=List.range p.rules.length) (step:=sG n p zs day) (λ i s=>(i,s)) (λ i s=>bif(p.rules[i]?).any (rV zs day)then s++[(i:Int)]else s) (λ s=>s) (λ i s=>s.length<=i)
  (λ i hi s hs=>?_) (λ s hs=>by rw[List.length_range];simp[sG]) n (by rw[List.length_range];omega) [] (aB _)
 rw[fL]at this;simp[this];congr 1;have gen:∀(ys:List Nat) s,ys.foldl (λ s (i:Nat)=>bif(p.rules[i]?).any (rV zs day)then s++[(i:Int)]else s) s=s++(ys.filter λi=>(p.rules[i]?).any (rV zs day)).map λ(i:Nat)=>(i:Int):=by
  intro ys
  induction ys with
  |nil=>intro s;simp
  |cons y ys ih=>
   intro s;rw[foldl_cons,ih,List.filter_cons];cases (p.rules[y]?).any (rV zs day)<;>simp
 exact gen (List.range p.rules.length) [];rw[List.length_range]at hi;rw[List.getElem_range];obtain⟨o1,o2⟩:=hr _ (getElem_mem hi);have ap:bJ s.length s.length (sub ([(i:Nat)]:List Int) 0 1).length 1 8=true:=bX (n:=1) (by omega) (by simp[maxLen];omega);have eg:(p.rules[i]?).any (rV zs day)=rV zs day p.rules[i]:=by rw[dF hi];rfl
 rw[eg];simp only[sG,cu hi,aj,aQ hi,ai,Ri _ zs o1 o2 h3 hn,FC,ap,eu,aH,rV,bf i];cases decide ((p.rules[i]).from_<=day)<;>cases (p.rules[i]).lh==0<;>cases decide (day<(p.rules[i]).lh)<;>cases VB p.rules[i] zs<;>refine⟨rfl,?_⟩<;>simp<;>omega
def Yk(p:dX):Bool:=decide (0<=p.side/\p.side<=3)&&(decide (0<=p.base/\p.base<=4096)&&(decide (0<=p.num/\p.num<=4096)&&decide (1<=p.den/\p.den<=4096)))
theorem anv(p:dX):Yk p=true↔(0<=p.side/\p.side<=3)/\(0<=p.base/\p.base<=4096)/\(0<=p.num/\p.num<=4096)/\(1<=p.den/\p.den<=4096):=by simp[Yk]
theorem Uj(a b c:Int):oG a b c=some (decide (b<=a/\a<=c)):=by
 unfold oG;by_cases h1:b<=a;have d:decide (b<=a)=true:=by simpa using h1
 rw[d,aj];congr 1;rw[fB];simp[h1];have d:decide (b<=a)=false:=by simpa using h1
 rw[d,au];congr 1;rw[fB];simp[h1]
theorem Yl(p:dX):Bc p=some (Yk p):=by unfold Bc Yk;simp only[Uj,ai,FC];generalize decide (0<=p.side/\p.side<=3)=a;generalize decide (0<=p.base/\p.base<=4096)=b;generalize decide (0<=p.num/\p.num<=4096)=c;cases a<;>cases b<;>cases c<;>rfl
theorem BV{l:List dX}{φ:(dX×Unit)->Option Bool}(p:dX->Bool)(h:∀x∈l,φ (x,())=some (p x))(hl:l.length<1099511627776)(hn:l.length<n):kW n l φ=some (l.any p):=by
 unfold kW;have e:sP n l φ=xq n l φ:=by kernel_rfl
 rw[e,fK p h hl hn,ai,rY]
def FI(b:ax)(l:List dX):Bool:=fx b&&!(l.any λp=>!Yk p)
theorem Ym(b:ax) l (hl:l.length<=1000) (hn:2000<=n):Bd n b l=some (FI b l):=by unfold Bd FI;rw[jI,BV (λ p=>!Yk p) (λ p _=>by show uO p=_;unfold uO;rw[Yl];rfl) (by omega) (by omega)];simp only[ai,FC];cases fx b<;>rfl
theorem ail{a n:Int}(hn:0<n):(if Int.tmod a n<0 then Int.tdiv a n -1 else Int.tdiv a n)=a/n:=by
 have h1:=Int.mul_ediv_add_emod a n;have h2:=Int.emod_nonneg a (by omega:n≠0);have h3:=Int.emod_lt_of_pos a hn;rcases Int.le_total 0 a with h |h;have e1:Int.tmod a n=a%n:=Int.tmod_eq_emod_of_nonneg h;have e2:Int.tdiv a n=a/n:=Int.tdiv_eq_ediv_of_nonneg h;rw[e1,e2,aP (by omega)];obtain⟨b,rfl⟩:∃b,a= -b:=⟨-a,by omega⟩;have hb:0<=b:=by omega
 have e1:Int.tmod (-b) n= -(b%n):=by rw[Int.neg_tmod,Int.tmod_eq_emod_of_nonneg hb]
 have e2:Int.tdiv (-b) n= -(b/n):=by rw[Int.neg_tdiv,Int.tdiv_eq_ediv_of_nonneg hb]
 have g1:=Int.mul_ediv_add_emod b n;have g2:=Int.emod_nonneg b (by omega:n≠0);have g3:=Int.emod_lt_of_pos b hn;rw[e1,e2];by_cases hm:b%n=0;rw[aP (by omega)];have:(-b)/n= -(b/n):=by refine(Int.ediv_eq_iff_of_pos hn).2 ?_;constructor;rw[Int.neg_mul,Int.mul_comm (b/n)];omega;rw[Int.neg_mul,Int.mul_comm (b/n)];omega
 omega;rw[aU (by omega)];have:(-b)/n= -(b/n) -1:=by refine(Int.ediv_eq_iff_of_pos hn).2 ?_;constructor;rw[Int.sub_mul,Int.neg_mul,Int.mul_comm (b/n)];omega;rw[Int.sub_mul,Int.neg_mul,Int.mul_comm (b/n)];omega
 omega
theorem Pg{a n:Int}(hn:0<n)(ha: -4611686018427387904<=a/\a<=4611686018427387904):uP a n=some (a/n):=by
 have nz:(n !=0)=true:=by simp;omega
 have hb: -4611686018427387904<=a/n/\a/n<=4611686018427387904:=by
  constructor;rw[Int.le_ediv_iff_mul_le hn];have: -4611686018427387904*n<= -4611686018427387904:=by omega
  omega;rcases Int.le_total 0 a with h |h;have:=Int.ediv_le_self n h;omega;have:a/n<=0:=by have:=(Int.ediv_lt_iff_lt_mul (a:=a) (b:=1) hn).2 (by omega);omega
  omega
 have hf:=ail (a:=a) hn;have ht: -4611686018427387904<=Int.tdiv a n/\Int.tdiv a n<=4611686018427387905:=by split at hf<;>omega
 unfold uP;simp[nz];rw[dw (x:=Int.tdiv a n),dw (x:=Int.tdiv a n -1),<- hf];by_cases h:Int.tmod a n<0;have d:decide (Int.tmod a n<0)=true:=by simpa using h
 rw[d,aU h];rfl;have d:decide (Int.tmod a n<0)=false:=by simpa using h
 rw[d,aP h];rfl
def Yn(b:ax)(side x y:Int):Int:=if side=0 then x -b.x0 else if side=1 then b.x1 -1 -x else if side=2 then y -b.y0 else b.y1 -1 -y
def aq5(b:ax)(p:dX)(x y:Int):Int:=p.base+p.num*Yn b p.side x y/p.den
def yl(b:ax)(l:List dX)(x y:Int):Int:=l.foldl (λ h p=>min h (aq5 b p x y)) 4096
abbrev InG(x y:Int):Prop:=(0<=x/\x<1048576)/\(0<=y/\y<1048576)
theorem afO{b:ax}(hb:fx b=true){x y:Int}(h:InG x y) side: -1048576<=Yn b side x y/\Yn b side x y<=1048576:=by simp at hb;obtain⟨h1,h2⟩:=h;unfold Yn;split;omega;split;omega;split<;>omega
theorem ak6{a d:Int}(ha:0<=a/\a<=4096)(hd: -1048576<=d/\d<=1048576): -4294967296<=a*d/\a*d<=4294967296:=by have h1:a*d<=a*1048576:=Int.mul_le_mul_of_nonneg_left hd.2 ha.1;have h2:a*(-1048576)<=a*d:=Int.mul_le_mul_of_nonneg_left hd.1 ha.1;omega
theorem ak7{a n:Int}(hn:0<n)(ha: -4294967296<=a/\a<=4294967296): -4294967296<=a/n/\a/n<=4294967296:=by constructor;rw[Int.le_ediv_iff_mul_le hn];omega;rcases Int.le_total 0 a with h |h;have:=Int.ediv_le_self n h;omega;have:=(Int.ediv_lt_iff_lt_mul (a:=a) (b:=1) hn).2 (by omega);omega
theorem adv{b:ax}{l:List dX}{x y:Int}(hb:fx b=true)(hp:∀p∈l,Yk p=true)(h:InG x y)(hl:l.length<=1000)(hn:2000<=n):Ky n b l x y=some (yl b l x y):=by
 unfold Ky xS;have hr:=hb;simp at hr;obtain⟨h1,h2⟩:=h;rw[dw (x:=x -b.x0),dw (x:=b.x1 -1),dw (x:=b.x1 -1 -x),dw (x:=y -b.y0),dw (x:=b.y1 -1),dw (x:=b.y1 -1 -y)];simp;have:=gq (l:=l) (step:=yJ b l x y ⟨x -b.x0,b.x1 -1 -x,y -b.y0,b.y1 -1 -y⟩) (λ i s=>(s,(i:Nat))) (λ p s=>min s (aq5 b p x y)) (λ s=>s) (λ i hi s=>?_) (λ s=>by simp[yJ]) n (by omega) 4096;rw[fL]at this;rw[this];rfl;obtain⟨s1,s2,s3,s4⟩:=(anv _).1 (hp _ (getElem_mem hi));have ib:cP (l[i]).side 4=true:=by simp[cP];omega
 have g:bj ([x -b.x0,b.x1 -1 -x,y -b.y0,b.y1 -1 -y]:List Int) (l[i]).side=some (Yn b (l[i]).side x y):=by
  have hs:(l[i]).side=0\/(l[i]).side=1\/(l[i]).side=2\/(l[i]).side=3:=by omega
  rcases hs with e |e |e |e<;>rw[e]<;>simp[bj,Yn]
 have db:=afO hb ⟨h1,h2⟩ (l[i]).side;have mb:=ak6 s3 db;have dv:=ak7 (n:=(l[i]).den) (by omega) mb;simp only[yJ,cu hi,aj,aQ hi,ai,ib,g];rw[dw (x:=(l[i]).num*Yn b (l[i]).side x y),Pg (by omega) (by omega)];simp only[ai];rw[dw (x:=(l[i]).base+_),aL (by omega)];rfl
theorem afP(b:ax) l:FI b l=true↔fx b=true/\∀p∈l,Yk p=true:=by unfold FI;rw[aY,Bool.not_eq_true',List.any_eq_false];simp
def HS(x:gB):Bool:=decide (x.z0<0) || (decide (x.z0>=x.z1) || (decide (x.z1>4096) || (decide (x.area=[]) || !c7 x.area)))
def B3(p:Option gB×gB):Bool:=HS p.2 || p.1.any λq=>decide (q.z1>p.2.z0) || (q.z1==p.2.z0&&decide (q.area=p.2.area))
def BX(s:List gB):List (Option gB×gB):=(none::s.map some).zip s
def FJ(s:List gB):Bool:=decide (s.length<=80)&&!((BX s).any B3)
theorem qz s:(BX s).length=s.length:=by simp[BX]
theorem FK{s:List gB}{i:Nat}(h:i<(BX s).length):(BX s)[i]=(if h0:i=0 then none else some (s[i -1]'(by rw[qz]at h;omega)),s[i]'(by rw[qz]at h;exact h)):=by
 simp[BX];cases i with
 |zero |succ i=>simp
theorem Ty{s:List gB}(ha:∀x∈s,x.area.length<=900)(hn:1000<=n):Jg n s=some (FJ s):=by
 unfold Jg FJ;by_cases h80:s.length<=80;have d:decide ((s.length:Int)>80)=false:=by simp;omega
 have d2:decide (s.length<=80)=true:=by simpa using h80
 have z:∀l:List ax,(((l.length:Int))==0)=decide (l=[]):=λl=>by cases l<;>simp<;>omega
 have:=kz (l:=BX s) (step:=Be n s) (λ i=>(i:Nat)) B3 () (λ _=>false) (λ i hi=>?_) ?_ n (by rw[qz];omega);rw[fL]at this;rw[d,d2,this,<- Ra];cases nE B3 (BX s)<;>rfl;rw[FK];rw[qz]at hi;have hi':decide ((i:Int)<s.length)=true:=by simpa using hi
 have h1:=ha _ (getElem_mem hi);simp only[Be,hi',aj,aQ hi,ai,z,jk (n:=n) (l:=s[i].area) (by omega) (by omega) hn,B3];rw[aL (by omega)];have b:((bif decide (s[i].z0<0)then some true else bif decide (s[i].z0>=s[i].z1)then some true else bif decide (s[i].z1>4096)then some true else bif decide (s[i].area=[])then some true else some (!c7 s[i].area)):Option Bool)=some (HS s[i]):=by unfold HS;cases decide (s[i].z0<0)<;>cases decide (s[i].z0>=s[i].z1)<;>cases decide (s[i].z1>4096)<;>cases decide (s[i].area=[])<;>rfl
 rw[b];simp;cases HS s[i]with
 |true=>simp
 |false=>
  by_cases h0:i=0;subst h0;have:(((0:Nat))==0)=true:=rfl;simp;have e0:((i:Int)==0)=false:=by simp;omega
  have w:i64.wrap (i -1)=(i -1:Nat):=lF (by omega) (by omega);have h2:=ha _ (getElem_mem (show i -1<s.length by omega));simp[e0,w,aQ (show i -1<s.length by omega),ah9 (n:=n) (a:=s[i -1].area) (b:=s[i].area) (by omega) (by omega),h0];cases decide (s[i -1].z1>s[i].z0)with
  |true=>simp
  |false=>
   cases s[i -1].z1==s[i].z0 with
   |false=>simp
   |true=>cases decide (s[i -1].area=s[i].area)<;>simp
 rw[qz];simp[Be];have d:decide ((s.length:Int)>80)=true:=by simp;omega
 have d2:decide (s.length<=80)=false:=by simpa using h80
 rw[d,d2];rfl
structure anw(x:gB):Prop where
 lo:0<=x.z0
 lt:x.z0<x.z1
 hi:x.z1<=4096
 ne:x.area≠[]
 rt:c7 x.area=true
def aq6(s:List gB):Prop:=∀i (h:i+1<s.length),s[i].z1<=s[i+1].z0/\¬(s[i].z1=s[i+1].z0/\s[i].area=s[i+1].area)
theorem afR(x:gB):HS x=false↔anw x:=by unfold HS;simp;constructor;rintro⟨h1,h2,h3,h4,h5⟩;exact⟨by omega,by omega,by omega,h4,h5⟩;rintro⟨h1,h2,h3,h4,h5⟩;exact⟨by omega,by omega,by omega,h4,h5⟩
theorem Yo s:FJ s=true↔s.length<=80/\(∀ x∈s,anw x)/\aq6 s:=by
 unfold FJ;rw[aY,bF,Bool.not_eq_true',List.any_eq_false];refine and_congr_right λ_=>?_;constructor;intro h;have key:∀i (hi:i<s.length),B3 ((BX s)[i]'(by rw[qz];exact hi))=false:=λi hi=>by have:=h _ (getElem_mem (show i<(BX s).length by rw[qz];exact hi));simpa using this
 refine⟨λ x hx=>?_,λi hi=>?_⟩;obtain⟨i,hi,rfl⟩:=mem_iff_getElem.1 hx;have:=key i hi;rw[FK]at this;unfold B3 at this;rw[Bool.or_eq_false_iff]at this;exact(afR _).1 this.1;have:=key (i+1) hi;rw[FK]at this;unfold B3 at this;rw[Bool.or_eq_false_iff]at this;have h2:=this.2;simp only[Nat.succ_ne_zero,dif_neg,not_false_eq_true,Option.any_some,Nat.add_sub_cancel,Bool.or_eq_false_iff,fF,Bool.and_eq_false_iff,beq_eq_false_iff_ne]at h2;refine⟨by omega,λ⟨e1,e2⟩=>?_⟩;rcases h2.2 with h3 |h3;exact h3 e1;exact h3 e2;rintro⟨h1,h2⟩ p hp;obtain⟨i,hi,rfl⟩:=mem_iff_getElem.1 hp;rw[FK];rw[qz]at hi;unfold B3;have hb:=(afR _).2 (h1 _ (getElem_mem hi));by_cases h0:i=0;simp[h0]at hb ⊢;exact hb;obtain⟨j,rfl⟩:∃j,i=j+1:=⟨i -1,by omega⟩;have⟨n1,n2⟩:=h2 j hi;simp only[Nat.succ_ne_zero,dif_neg,not_false_eq_true,Option.any_some,Nat.add_sub_cancel];rw[hb];simp only[Bool.false_or,Bool.or_eq_true,bF,aY,beq_iff_eq];rintro (h |h);omega;exact n2 h
theorem tL{l:List gB}{φ:(gB×Unit)->Option Bool}(p:gB->Bool)(h:∀x∈l,φ (x,())=some (p x))(hl:l.length<1099511627776)(hn:l.length<n):jh n l φ=some (l.any p):=by
 unfold jh uQ;have:=kz (l:=l) (step:=mH l φ) (λ i=>(i:Nat)) p () (λ i=>(i:Nat)) (λ i hi=>?_) (by simp[mH]) n hn;rw[fL]at this;rw[this,<- Ra];cases nE p l with
 |none=>rfl
 |some i=>simp<;>omega
 have hi':decide ((i:Int)<l.length)=true:=by simpa using hi
 simp only[mH,hi',aj,aQ hi,ai,h _ (getElem_mem hi)];rw[aL (by omega)];cases p l[i]<;>rfl
def Sf(s:List gB)(lot:Int)(e:lG):Bool:=e.lot==lot&&(c7 e.area&&s.any λc=>decide (c.z1>e.top)&&Pi c.area e.area)
def O2(l:List lG)(lot:Int)(s:List gB):Bool:=FJ s&&!(l.any (Sf s lot))
theorem aad{l:List lG}{lot:Int}{s:List gB}(hl:l.length<=900)(he:∀e∈l,e.area.length<=900)(ha:∀x∈s,x.area.length<=900)(hn:1000<=n):Fs n l lot s=some (O2 l lot s):=by
 unfold Fs O2;rw[Ty ha hn];simp;cases hr:FJ s with
 |false=>rfl
 |true=>
 have l80:=((Yo s).1 hr).1;have:=kz (l:=l) (step:=wR n l lot s) (λ i=>(i:Nat)) (Sf s lot) () (λ _=>false) (λ i hi=>?_) (by simp[wR]) n (by omega);rw[fL]at this;simp;rw[this,<- Ra];cases nE (Sf s lot) l<;>rfl;have hi':decide ((i:Int)<l.length)=true:=by simpa using hi
 have h1:=he _ (getElem_mem hi);have cf:=tL (n:=n) (l:=s) (φ:=λy:gB×Unit=>rT n y.1 l[i]) (λ c=>decide (c.z1>l[i].top)&&Pi c.area l[i].area) (λ c hc=>by have:=ha c hc;show rT n c l[i]=_;unfold rT;rw[ah8 (by omega) (by omega) (by omega) (by omega)];cases decide (c.z1>l[i].top)<;>rfl) (by omega) (by omega);simp only[wR,hi',aj,aQ hi,ai,jk (n:=n) (l:=l[i].area) (by omega) (by omega) hn,cf];rw[aL (by omega)];unfold Sf;cases h2:l[i].lot==lot with
 |false=>
  have:(l[i].lot !=lot)=true:=by simp[bne,h2]
  simp[this]
 |true=>
  have:(l[i].lot !=lot)=false:=by simp[bne,h2]
  simp[this];cases c7 l[i].area with
  |false=>simp
  |true=>cases s.any λc=>decide (c.z1>l[i].top)&&Pi c.area l[i].area<;>simp
theorem afT(r:ax):fx r=true↔(0<=r.x0/\r.x0<r.x1/\r.x1<=1048576)/\(0<=r.y0/\r.y0<r.y1/\r.y1<=1048576):=by simp;omega
theorem KO{b:ax}{l:List dX}(r:ax) x (hb:fx b=true) (hp:∀p∈l,Yk p=true) (hr:fx r=true) (hx:0<=x/\x<1048576) (hl:l.length<=1000) (hn:2000<=n) v:
 iter (o8 n b l r x) n (v,0)=some (min (min v (yl b l x r.y0)) (yl b l x (r.y1 -1))):=by
 have ho:=(afT r).1 hr;have w:i64.wrap (r.y1 -1)=r.y1 -1:=dw (by omega) (by omega);have:=gq (l:=[r.y0,r.y1 -1]) (step:=o8 n b l r x) (λ i s=>(s,(i:Nat))) (λ y m=>min m (yl b l x y)) (λ s=>s) (λ i hi s=>?_) (λ s=>by simp[o8]) n (by simp;omega) v;rw[fL]at this;exact this;have h2:i<2:=by simpa using hi
 have yb:0<=([r.y0,r.y1 -1]:List Int)[i]/\([r.y0,r.y1 -1]:List Int)[i] <1048576:=by rcases i with _ |_ |i;simp;omega;simp;omega;omega
 simp only[o8,cu h2,aj,aZ h2,w,bK hi,ai,adv hb hp ⟨hx,yb⟩ hl hn,bf i]
def aqi(b:ax)(l:List dX)(v:Int)(r:ax):Int:=min (min (min (min v (yl b l r.x0 r.y0)) (yl b l r.x0 (r.y1 -1))) (yl b l (r.x1 -1) r.y0)) (yl b l (r.x1 -1) (r.y1 -1))
theorem KP{b:ax}{l:List dX}(r:ax)(hb:fx b=true)(hp:∀p∈l,Yk p=true)(hr:fx r=true)(hl:l.length<=1000)(hn:2000<=n) v:
 iter (o9 n b l r) n (v,0)=some (aqi b l v r):=by
 have ho:=(afT r).1 hr;have w:i64.wrap (r.x1 -1)=r.x1 -1:=dw (by omega) (by omega);have:=gq (l:=[r.x0,r.x1 -1]) (step:=o9 n b l r) (λ i s=>(s,(i:Nat))) (λ x m=>min (min m (yl b l x r.y0)) (yl b l x (r.y1 -1))) (λ s=>s) (λ i hi s=>?_) (λ s=>by simp[o9]) n (by simp;omega) v;rw[fL]at this;exact this;have h2:i<2:=by simpa using hi
 have xb:0<=([r.x0,r.x1 -1]:List Int)[i]/\([r.x0,r.x1 -1]:List Int)[i] <1048576:=by rcases i with _ |_ |i;simp;omega;simp;omega;omega
 simp only[o9,cu h2,aj,aZ h2,w,bK hi,ai,KO r _ hb hp hr xb hl hn,bf i]
def Se(b:ax)(l:List dX)(a:List ax):Int:=a.foldl (aqi b l) 4096
theorem Uk{b:ax}{l:List dX}{a:List ax}(hb:fx b=true)(hp:∀p∈l,Yk p=true)(ha:∀r∈a,fx r=true)(hal:a.length<=1000)(hl:l.length<=1000)(hn:2000<=n):yK n b l a=some (Se b l a):=by unfold yK;have:=gq (l:=a) (step:=sH n b l a) (λ i s=>(s,(i:Nat))) (λ r m=>aqi b l m r) (λ s=>s) (λ i hi s=>?_) (λ s=>by simp[sH]) n (by omega) 4096;rw[fL]at this;rw[this];rfl;simp only[sH,cu hi,aj,aQ hi,ai,KP a[i] hb hp (ha _ (getElem_mem hi)) hl hn,bf i]
theorem ao7(r:ax):fx r=true↔(0<=r.x0/\r.x0<r.x1/\r.x1<=1048576)/\(0<=r.y0/\r.y0<r.y1/\r.y1<=1048576):=by simp;omega
abbrev BY(t:fE):Prop:=t.area.length<=900/\t.from_.length*8<=140737488355328
theorem aim{t:fE}(h:BY t):Dr t=some t:=by unfold Dr;have h2:=h.2;rw[Dx (by omega),ai,show yA t.from_=some t.from_ from AP (b:=8) (by omega) (by simp[maxLen];omega),ai];simp
theorem abY{land:List fE}{id:Int}(h:∀t∈land,BY t)(hl:land.length<1099511627776)(hn:land.length<n):qN n land id=some (dn land id):=by
 unfold qN;have:=kz (l:=land) (step:=sO land id) (λ i=>i) (λ t=>t.id==id) () (λ i=>(land.getD i Pc,true)) (λ i hi=>?_) ?_ n hn;rw[fL]at this;rw[this];unfold dn;rcases MK (λ t:fE=>t.id==id) land with ⟨i,hi,h1,h2⟩ |⟨h1,h2⟩;rw[h1,h2];simp[hi];rw[h1,h2];rfl;simp only[sO,cu hi,aj,aQ hi,ai,aim (h _ (getElem_mem hi))];cases land[i].id==id with
 |true=>simp[hi]
 |false=>simp only[au];rw[aL (by omega)]
 simp[sO]
theorem Rk{land:List fE}(h:∀t∈land,BY t) id:BY (dn land id).1:=by unfold dn;split;rename_i t ht;exact h t (List.mem_of_find?_eq_some ht);simp[BY,Pc]
structure arP(t:eH):Prop where
 rules:t.aq.length<=20
 VM:∀r∈t.aq,aik r
 zones:t.cz.length<=20
 land:t.land.length<=20
 lots:∀l∈t.land,BY l
 cJ:t.cJ.length<=5
 arW:∀e∈t.cJ,e.area.length<=10
theorem Tz{α:Type}(p:α->Bool):∀l:List α,((List.range l.length).filter λi=>(l[i]?).any p).filterMap (λ i=>l[i]?)=l.filter p
 |[]=>rfl
 |a::l=>by
  have ih:=Tz p l;rw[eD,List.range_succ_eq_map,List.filter_cons,List.filter_cons];have e:(List.filter (λ i=>((a::l)[i]?).any p) (List.map Nat.succ (List.range l.length))).filterMap (λ i=>(a::l)[i]?)=l.filter p:=by rw[List.filter_map,List.filterMap_map];exact ih
  cases hp:p a with
  |true |false=>simp[hp];simpa using e
def H2(a r:ax):ax:=⟨min a.x0 r.x0,min a.y0 r.y0,max a.x1 r.x1,max a.y1 r.y1⟩
def ajQ:List ax->ax
 |[]=>⟨0,0,0,0⟩
 |r::l=>l.foldl H2 r
def VD(a:List ax):ax×Bool:=bif decide (a≠[])&&c7 a then(ajQ a,true)else(⟨0,0,0,0⟩,false)
theorem afV{a:List ax}(ha:a≠[])(hv:∀r∈a,fx r=true)(hl:a.length<=900)(hn:2000<=n):OW n a=some (ajQ a,true):=by
 unfold OW;have:=gq (l:=a.zip (List.range a.length)) (step:=Bb a) (λ i (s:Bool×Int×Int×Int×Int)=>(s.1,(i:Nat),s.2)) (λ p s=>bif !s.1 then(true,p.1.x0,p.1.y0,p.1.x1,p.1.y1)else(s.1,min s.2.1 p.1.x0,min s.2.2.1 p.1.y0,max s.2.2.2.1 p.1.x1,max s.2.2.2.2 p.1.y1)) (λ s=>s) (λ i hi s=>?_) (λ s=>?_) n (by simp;omega) (false,0,0,0,0);rw[fL]at this;simp only at this;rw[this];cases a with
 |nil=>exact absurd rfl ha
 |cons r l=>
  have gen:∀(l:List ax)(k:List Nat)(s:ax),l.length<=k.length->(l.zip k).foldl (λ (s:Bool×Int×Int×Int×Int) p=>bif !s.1 then(true,p.1.x0,p.1.y0,p.1.x1,p.1.y1)else(s.1,min s.2.1 p.1.x0,min s.2.2.1 p.1.y0,max s.2.2.2.1 p.1.x1,max s.2.2.2.2 p.1.y1)) (true,s.x0,s.y0,s.x1,s.y1)=(true,(l.foldl H2 s).x0,(l.foldl H2 s).y0,(l.foldl H2 s).x1,(l.foldl H2 s).y1):=by
   intro l
   induction l with
   |nil=>intro k s _;rfl
   |cons r l ih=>
    intro k s hk;cases k with
    |nil=>simp at hk
    |cons j k=>
     rw[List.zip_cons_cons,foldl_cons,foldl_cons];exact ih k (H2 s r) (by simpa using hk)
  rw[eD,List.range_succ_eq_map,List.zip_cons_cons,foldl_cons];simp only[Bool.not_false,aj];rw[gen l _ r (by simp)];rfl
 have hi':i<a.length:=by simpa using hi
 obtain⟨s1,s2,s3,s4,s5⟩:=s;have ok:=hv _ (getElem_mem hi');simp only[Bb,cu hi',aj,aQ hi',ai,jI,ok,Bool.not_true,au,FC,List.getElem_zip,bf i];obtain⟨s1,s2,s3,s4,s5⟩:=s;have:(a.zip (List.range a.length)).length=a.length:=by simp
 simp[Bb]
theorem adw a (hl:a.length<=900) (hn:2000<=n):Kw n a=some (VD a):=by
 unfold Kw VD;cases a with
 |nil=>rfl
 |cons r l=>
  have e:((((r::l).length:Nat):Int)==0)=false:=by simp;omega
  have e2:decide (r::l≠[])=true:=by simp
  rw[jk (by omega) (by omega) (by omega),e,e2];simp;cases hr:c7 (r::l)with
  |false=>rfl
  |true=>
   simp;rw[afV (by simp) (uW hr).1 hl hn];rfl
structure arR(X Y:List Int)(es:List lG):Prop where
 ok:∀e∈es,c7 e.area=true
 x0:∀e∈es,∀c∈e.area,c.x0∈X
 x1:∀e∈es,∀c∈e.area,c.x1∈X
 y1:∀e∈es,∀c∈e.area,c.y1∈Y
 len:∀e∈es,e.area.length<=200
 size:X.length*Y.length<=200000
theorem yX{α W O:Type}{l:List α}{step:Int->Option (Int⊕(W⊕O))}(p:α->Bool)(w:W)(o:O)
 (h:∀i (hi:i<l.length),step i=some (bif p l[i]then .inr (.inr o)else .inl (i+1:Nat)))
 (hend:step l.length=some (.inr (.inl w))) (n:Nat) (hn:l.length<n):iter step n 0=some (bif l.any p then .inr o else .inl w):=by have:=kz (l:=l) (step:=step) (λ i=>(i:Nat)) p w (λ _=>o) h hend n hn;rw[fL]at this;rw[this,<- jP];cases nE p l<;>rfl
def Sa(t:eH):Bool:=
 (decide (t.aq.length<=10)&&(decide (t.cz.length<=6)&&(decide (t.cH.length<=20)&&(decide (t.ct.length<=20)&&(decide (t.land.length<=5)&&(decide (t.cJ.length<=5)&&decide (t.built.length<=6)))))))&&
 (!(t.aq.any λr=>decide (r.zones.length>5) || decide (r.except.length>5))&&(!(t.land.any λl=>decide (l.area.length>10))&&!(t.cJ.any λe=>decide (e.area.length>10))))
theorem aq7{a b:Nat}:decide ((a:Int)>b)=!decide (a<=b):=by
 by_cases h:a<=b;have:¬(a>b):=by omega
 simp[h];have:a>b:=by omega
 simp[this,h]
theorem ain(t:eH)(hn:2000<=n):Vu n t=some (Sa t):=by
 unfold Vu Sa;simp only[show (10:Int)=((10:Nat):Int)from rfl,show(6:Int)=((6:Nat):Int)from rfl,show(20:Int)=((20:Nat):Int)from rfl,show(5:Int)=((5:Nat):Int)from rfl,aq7,FC,ai];cases hA:(decide (t.aq.length<=10)&&(decide (t.cz.length<=6)&&(decide (t.cH.length<=20)&&(decide (t.ct.length<=20)&&(decide (t.land.length<=5)&&(decide (t.cJ.length<=5)&&decide (t.built.length<=6)))))))with
 |false=>
  have e:(bif !decide (t.aq.length<=10)then true else bif !decide (t.cz.length<=6)then true else bif !decide (t.cH.length<=20)then true else bif !decide (t.ct.length<=20)then true else bif !decide (t.land.length<=5)then true else bif !decide (t.cJ.length<=5)then true else !decide (t.built.length<=6))=true:=by revert hA;cases decide (t.aq.length<=10)<;>cases decide (t.cz.length<=6)<;>cases decide (t.cH.length<=20)<;>cases decide (t.ct.length<=20)<;>cases decide (t.land.length<=5)<;>cases decide (t.cJ.length<=5)<;>cases decide (t.built.length<=6)<;>simp
  rw[e];rfl
 |true=>
  have e:(bif !decide (t.aq.length<=10)then true else bif !decide (t.cz.length<=6)then true else bif !decide (t.cH.length<=20)then true else bif !decide (t.ct.length<=20)then true else bif !decide (t.land.length<=5)then true else bif !decide (t.cJ.length<=5)then true else !decide (t.built.length<=6))=false:=by revert hA;cases decide (t.aq.length<=10)<;>cases decide (t.cz.length<=6)<;>cases decide (t.cH.length<=20)<;>cases decide (t.ct.length<=20)<;>cases decide (t.land.length<=5)<;>cases decide (t.cJ.length<=5)<;>cases decide (t.built.length<=6)<;>simp
  simp at hA;rw[e];simp;rw[yX (l:=t.aq) (λ r=>decide (r.zones.length>5) || decide (r.except.length>5)) () false (λ i hi=>?_) (by simp[MB]) n (by omega)];cases (t.aq.any λr=>decide (r.zones.length>5) || decide (r.except.length>5))with
  |true=>rfl
  |false=>
   simp;rw[yX (l:=t.land) (λ l=>decide (l.area.length>10)) () false (λ i hi=>?_) (by simp[MC]) n (by omega)];cases (t.land.any λl=>decide (l.area.length>10))with
   |true=>rfl
   |false=>
    simp;rw[yX (l:=t.cJ) (λ e=>decide (e.area.length>10)) () false (λ i hi=>?_) (by simp[ME]) n (by omega)];cases (t.cJ.any λe=>decide (e.area.length>10))<;>rfl;have d:decide ((((t.cJ[i]).area.length:Nat):Int)>10)=decide ((t.cJ[i]).area.length>10):=(by rw[fB,bF,bF];omega);simp only[ME,cu hi,aj,aQ hi,ai,d,Option.map_some,FC,bf i]
   have d:decide ((((t.land[i]).area.length:Nat):Int)>10)=decide ((t.land[i]).area.length>10):=(by rw[fB,bF,bF];omega);simp only[MC,cu hi,aj,aQ hi,ai,d,Option.map_some,FC,bf i]
  have d1:decide ((((t.aq[i]).zones.length:Nat):Int)>5)=decide ((t.aq[i]).zones.length>5):=by rw[fB,bF,bF];omega
  have d2:decide ((((t.aq[i]).except.length:Nat):Int)>5)=decide ((t.aq[i]).except.length>5):=by rw[fB,bF,bF];omega
  simp only[MB,cu hi,aj,aQ hi,ai,d1,d2,Option.map_some,FC,bf i];cases decide ((t.aq[i]).zones.length>5)<;>cases decide ((t.aq[i]).except.length>5)<;>rfl
theorem KD{V O:Type}{step:V->Option (V⊕O)}(f:Nat->V){s:V}(N:Nat)(o:O)(h0:s=f 0)
 (h1:∀i,i<N->step (f i)=some (.inl (f (i+1)))) (h2:step (f N)=some (.inr o)) (n:Nat) (hn:N<n):iter step n s=some o:=by rw[h0];exact iJ f N o h1 h2 n hn
def tb(f:Nat->Nat->Bool):List Bool:=(List.range 144).map λi=>f (i/12) (i%12)
def upd(f:Nat->Nat->Bool)(a b:Nat)(v:Bool):Nat->Nat->Bool:=λx y=>if x=a/\y=b then v else f x y
inductive Tc(e:Nat->Nat->Bool):Nat->Nat->Prop
 |one {a b:Nat}:a<12->b<12->e a b=true->Tc e a b
 |trans {a b c:Nat}:Tc e a b->Tc e b c->Tc e a c
theorem Tc.lt{e:Nat->Nat->Bool}{a b:Nat}(h:Tc e a b):a<12/\b<12:=by
 induction h with
 |one h1 h2 _=>exact⟨h1,h2⟩
 |trans _ _ i1 i2=>exact⟨i1.1,i2.2⟩
def gZ(v:aF):ax:=ax.mk v.ci v.cE v.cd v.cD
def okV(v:aF):Bool:=fx (gZ v)&&(decide (0<=v.fm)&&(decide (v.fm<v.ez)&&(decide (v.ez<=4096)&&((decide (v.use=0) || decide (v.units=0))&&(decide (0<=v.use)&&(decide (v.use<6)&&(decide (0<=v.units)&&decide (v.units<=1048576))))))))
theorem uZ(v:aF):fU v=some (okV v):=by
 unfold fU okV;rw[jI];have e1:decide (v.fm<0)=!decide (0<=v.fm):=by rw[<- decide_not,decide_eq_decide];omega
 have e2:decide (v.fm>=v.ez)=!decide (v.fm<v.ez):=by rw[<- decide_not,decide_eq_decide];omega
 have e3:decide (v.ez>4096)=!decide (v.ez<=4096):=by rw[<- decide_not,decide_eq_decide];omega
 have e4:(v.use !=0)=!decide (v.use=0):=by by_cases h:v.use=0<;>simp[h]
 have e5:(v.units !=0)=!decide (v.units=0):=by by_cases h:v.units=0<;>simp[h]
 rw[e1,e2,e3,e4,e5,show ax.mk v.ci v.cE v.cd v.cD=gZ v from rfl];simp;generalize fx (gZ v)=a1;generalize decide (0<=v.fm)=a2;generalize decide (v.fm<v.ez)=a3;generalize decide (v.ez<=4096)=a4;generalize decide (v.use=0)=a5;generalize decide (v.units=0)=a6;generalize decide (0<=v.use)=a7;generalize decide (v.use<6)=a8;generalize decide (0<=v.units)=a9;generalize decide (v.units<=1048576)=k9;cases a1<;>cases a2<;>cases a3<;>cases a4<;>cases a5<;>cases a6<;>cases a7<;>cases a8<;>cases a9<;>rfl
theorem Yp{v:aF}(h:okV v=true):fx (gZ v)=true:=by rw[okV,aY]at h;exact h.1
def lq(d:aO):List aF:=d.phases.flatMap (·.bx)
theorem ft{l:List lu}(h:∀p∈l,p.bx.length<=1000):(l.flatMap (·.bx)).length<=l.length*1000:=by
 induction l with
 |nil=>simp
 |cons p l ih=>
  have h1:=h p (by simp);have h2:=ih λq hq=>h q (by simp[hq]);simp only[List.flatMap_cons,dQ,eD];omega
def Ul(d:aO):Prop:=d.phases.length<=1000/\∀p∈d.phases,p.bx.length<=1000
theorem Yq{d:aO}(h:Ul d)(hn:1001<=n):o6 n d 0 d.phases.length=some (lq d):=by
 obtain⟨h1,h2⟩:=h;unfold o6;have key:=KD (step:=oq d 0 d.phases.length) (λ i=>(i,(d.phases.take i).flatMap (·.bx))) (s:=(0,[])) d.phases.length (lq d) rfl (λ i hi=>by
  have e2:decide (i>=0)=true:=by simp
  have hl:=ft (l:=d.phases.take i) λp hp=>h2 p (List.mem_of_mem_take hp);rw[length_take]at hl;have hv:=h2 _ (getElem_mem hi);generalize hL:(d.phases.take i).flatMap (·.bx)=L at hl;have hap:bJ L.length L.length d.phases[i].bx.length d.phases[i].bx.length 72=true:=bX (by omega) (by simp[maxLen];omega);simp only[oq,cu hi,aj,aQ hi,ai,e2,hap,eu,aH,bf i];rw[iR hi,List.flatMap_append,hL];simp) (by simp[oq,lq]) n (by omega)
 have hz:az 0 ([]:List aF).length=true:=rfl;simp[key]
def OS(v:aF):Int:=(lH v).getD 0
theorem Yr(v:aF):lH v=some (OS v):=by unfold OS lH;rw[uZ];cases v.extra<;>cases okV v<;>rfl
def Rl(v:aF):Int:=(pJ v).getD 0
theorem afX(v:aF):pJ v=some (Rl v):=by
 unfold Rl pJ;rw[uZ,Yr];cases h:okV v with
 |false=>rfl
 |true=>
  have e:=DJ (Yp h);unfold gZ at e;simp[e]
def HR(f:aF->Int)(l:List aF):Int:=l.foldl (λ s v=>i64.wrap (s+f v)) 0
def R0(f:aF->Int)(l:List aF):Int:=l.foldl (λ s v=>max s (f v)) 0
theorem aqj a1 a8 {a9:List aF} (hl:a9.length<=1000) (hn:1001<=n):∀a0 a2 a3 a4 a5 a6 a7,kT n a0 a1 a2 a3 a4 a5 a6 a7 a8 a9=some (HR Rl a9,a0,a1,a2,a3,a4,a5,a6,a7,a8,a9):=by have key:=gq (l:=a9) (step:=jQ a9) (λ i s=>(s,i)) (λ v s=>i64.wrap (s+Rl v)) (λ s=>s) (λ i hi s=>by simp only[jQ,cu hi,aj,aZ hi,bK hi,ai,afX,bf i]) (λ s=>by simp[jQ]) n (by omega) 0;rw[fL]at key;unfold kT rq;simp only[key,ai,aH,aj];exact λ_ _ _ _ _ _ _=>rfl
theorem aqk a1 a8 {a9:List aF} (hl:a9.length<=1000) (hn:1001<=n):∀a0 a2 a3 a4 a5 a6 a7,kU n a0 a1 a2 a3 a4 a5 a6 a7 a8 a9=some (HR (·.units) a9,a0,a1,a2,a3,a4,a5,a6,a7,a8,a9):=by have key:=gq (l:=a9) (step:=jT a9) (λ i s=>(s,i)) (λ v s=>i64.wrap (s+v.units)) (λ s=>s) (λ i hi s=>by simp only[jT,cu hi,aj,aZ hi,bK hi,ai,pV,bf i]) (λ s=>by simp[jT]) n (by omega) 0;rw[fL]at key;unfold kU ru;simp only[key,ai,aH,aj];exact λ_ _ _ _ _ _ _=>rfl
theorem anx a1 a8 {a9:List aF} (hl:a9.length<=1000) (hn:1001<=n):∀a0 a2 a3 a4 a5 a6 a7,jR n a0 a1 a2 a3 a4 a5 a6 a7 a8 a9=some (R0 OS a9,a0,a1,a2,a3,a4,a5,a6,a7,a8,a9):=by have key:=gq (l:=a9) (step:=gV a9) (λ i s=>(s,i)) (λ v s=>max s (OS v)) (λ s=>s) (λ i hi s=>by simp only[gV,cu hi,aj,aZ hi,bK hi,ai,Yr,bf i]) (λ s=>by simp[gV]) n (by omega) 0;rw[fL]at key;unfold jR nk;simp only[key,ai,aH,aj];exact λ_ _ _ _ _ _ _=>rfl
theorem anz a1 a8 {a9:List aF} (hl:a9.length<=1000) (hn:1001<=n):∀a0 a2 a3 a4 a5 a6 a7,jS n a0 a1 a2 a3 a4 a5 a6 a7 a8 a9=some (R0 (·.ez) a9,a0,a1,a2,a3,a4,a5,a6,a7,a8,a9):=by have key:=gq (l:=a9) (step:=gW a9) (λ i s=>(s,i)) (λ v s=>max s v.ez) (λ s=>s) (λ i hi s=>by simp only[gW,cu hi,aj,aZ hi,bK hi,ai,ow,bf i]) (λ s=>by simp[gW]) n (by omega) 0;rw[fL]at key;unfold jS nu;simp only[key,ai,aH,aj];exact λ_ _ _ _ _ _ _=>rfl
theorem ala(e:bg)(a:Kq){u:Int}(h0:0<=u)(h6:u<6):∃b,kJ e a u=some b:=by
 obtain⟨k,rfl⟩:∃k:Nat,u=k:=⟨u.toNat,by omega⟩;have hk:k<6:=by omega
 unfold kJ;rw[aZ hk,aQ (l:=[a.a0,a.a1,a.a2,a.a3,a.a4,a.a5]) hk];exact⟨_,rfl⟩
theorem FL{l:List bg}{φ:(bg×Unit)->Option Bool}(p:bg->Bool)(h:∀x∈l,φ (x,())=some (p x))(hl:l.length<=9223372036854775807)(hn:l.length<n):iX n l φ=some (yu p l):=Gi p h hl hn
theorem aql(p:bO){u:Int}(h0:0<=u)(h6:u<6)(ht:p.tables.length<n)(ht2:p.tables.length<=9223372036854775807)(hr:∀t∈p.tables,t.rows.length<n/\t.rows.length<=9223372036854775807):∃r,AU n p u=some r:=by
 have key:∃o,iter (kK n p u) n 0=some o/\True:=by
  have step:∀i (hi:i<p.tables.length),kK n p u i=some (.inl (i+1:Nat))\/∃z,kK n p u i=some (.inr (.inr z)):=by
   intro i hi;obtain⟨r1,r2⟩:=hr _ (getElem_mem hi);simp only[kK,cu hi,aj,aQ hi,ai,bf i];cases ByteArray.toList p.tables[i].name==ByteArray.toList ⟨#[116,114,97,102,102,105,99]⟩with
   |false=>exact Or.inl rfl
   |true=>
    right;simp;generalize Kq.mk _ _ _ _ _ _=A;have hx:=FL (n:=n) (l:=p.tables[i].rows) (φ:=λy1=>kJ y1.1 A u) (λ e=>(kJ e A u).getD false) (λ e _=>by have⟨b,hb⟩:=ala e A h0 h6;simp[hb]) r2 r1;rw[hx];simp[rY];cases hany:p.tables[i].rows.any λe=>(kJ e A u).getD false with
    |false=>exact⟨_,rfl⟩
    |true=>
     have⟨j,hj,h1,_⟩:=afc hany;rw[h1];simp only[aj,aQ hj,ai];exact⟨_,rfl⟩
  have main:∀k i m,i+k=p.tables.length->k<m->∃o,iter (kK n p u) m i=some o/\True:=by
   intro k
   induction k with
   |zero=>
    intro i m hi hm;obtain⟨q,rfl⟩:∃q,m=q+1:=⟨m -1,by omega⟩;have:i=p.tables.length:=(by omega);subst this;exact⟨.inl (),fI (by simp[kK]),trivial⟩
   |succ k ih=>
    intro i m hi hm;obtain⟨q,rfl⟩:∃q,m=q+1:=⟨m -1,by omega⟩;rcases step i (by omega)with h |⟨z,h⟩;rw[jL h];exact ih (i+1) q (by omega) (by omega);exact⟨_,fI h,trivial⟩
  exact main p.tables.length 0 n (by omega) ht
 obtain⟨o,h1,_⟩:=key;unfold AU;rw[h1];cases o with
 |inl w |inr r=>exact⟨_,rfl⟩
theorem aio(p:bO){v:aF}(hv:okV v=true)(ht:p.tables.length<n)(ht2:p.tables.length<=9223372036854775807)(hr:∀t∈p.tables,t.rows.length<n/\t.rows.length<=9223372036854775807):∃r,jG n p v=some r:=by
 simp[okV]at hv;have⟨r,h1⟩:=aql (n:=n) p (u:=v.use) hv.2.2.2.2.2.1 hv.2.2.2.2.2.2.1 ht ht2 hr;unfold jG;rw[h1,afX];simp;have e100:(100 !=0)=true:=rfl;by_cases h:r>0;have e:(r !=0)=true:=by simp;omega
 have e2:decide (r>0)=true:=by simpa using h
 rw[e,e2];simp;cases decide (Rl v>i64.wrap (Int.tdiv 109951162777600 r))<;>exact⟨_,rfl⟩;have e2:decide (r>0)=false:=by simpa using h
 rw[e2];exact⟨_,rfl⟩
def apG(n:Nat)(ts:List bQ)(v:aF):Int:=(jG n (bO.mk [] ts [] [] [] [] [] 0) v).getD 0
theorem aqm a1 a8 {a9:List aF} (hl:a9.length<=1000) (hn:1001<=n) (hv:∀v∈a9,okV v=true) (ht:a1.length<n) (ht2:a1.length<=9223372036854775807) (hr:∀t∈a1,t.rows.length<n/\t.rows.length<=9223372036854775807):∀a0 a2 a3 a4 a5 a6 a7,jA n a0 a1 a2 a3 a4 a5 a6 a7 a8 a9=some (HR (apG n a1) a9,a0,a1,a2,a3,a4,a5,a6,a7,a8,a9):=by have key:=λa0 a2 a3 a4 a5 a6 a7=>dN (l:=a9) (step:=jV n a9) (λ i s=>(s,i,a0,a1,a2,a3,a4,a5,a6,a7,a8,a9)) (λ v s=>i64.wrap (s+(jG n (bO.mk [] a1 [] [] [] [] [] 0) v).getD 0)) (λ s=>(s,a0,a1,a2,a3,a4,a5,a6,a7,a8,a9)) (λ _ _=>True) (λ i hi s _=>⟨by obtain⟨r,h1⟩:=aio (n:=n) (bO.mk [] a1 [] [] [] [] [] 0) (hv _ (getElem_mem hi)) ht ht2 hr;have h2:jG n (bO.mk a0 a1 a2 a3 a4 a5 a6 a7) a9[i]=some r:=h1;simp only[jV,cu hi,aj,aZ hi,bK hi,ai,kL,h1,h2,aH,bf i,Option.getD_some],trivial⟩) (λ s _=>by simp[jV]) n (by omega) 0 trivial;have key:=λa0 a2 a3 a4 a5 a6 a7=>(fL) ▸ key a0 a2 a3 a4 a5 a6 a7;unfold jA rz;simp only[key,ai,aH,aj];exact λ_ _ _ _ _ _ _=>rfl
theorem anA{α β:Type}(l:List α)(f:α->β)(z:β){i:Nat}(hi:i<l.length):((l.take i).map f++List.replicate (l.length -i) z).set i (f l[i])=(l.take (i+1)).map f++List.replicate (l.length -(i+1)) z:=by
 have h1:((l.take i).map f).length=i:=by simp;omega
 rw[List.set_append_right _ _ (by omega),h1,Nat.sub_self,show l.length -i=(l.length -(i+1))+1 by omega,List.replicate_succ,List.set_cons_zero,iR hi,map_append,aT];rfl
theorem anB{α β:Type}(l:List α)(f:α->β)(z:β){i:Nat}(hi:i<=l.length):((l.take i).map f++List.replicate (l.length -i) z).length=l.length:=by simp;omega
theorem anC{α β:Type}(l:List α)(f:α->β)(z:β){i:Nat}(hi:i<l.length):((l.take (i+1)).map f++List.replicate (l.length -(i+1)) z)[i]? =some (f l[i]):=by rw[List.getElem?_append_left (by simp;omega)];simp[hi]
theorem anD{l:List aF}(hl:l.length<=1000)(hn:1001<=n):iter (gD l) n (0,List.replicate l.length (ax.mk 0 0 0 0),[])=some (l.map gZ,l.flatMap λv=>[v.ci,v.cd]):=by
 refine KD (step:=gD l) (λ i=>(i,(l.take i).map gZ++List.replicate (l.length -i) (ax.mk 0 0 0 0),(l.take i).flatMap λv=>[v.ci,v.cd])) l.length _ ?_ (λ i hi=>?_) ?_ n (by omega);simp;have h1:=anB l gZ (ax.mk 0 0 0 0) (Nat.le_of_lt hi);have h2:=anA l gZ (ax.mk 0 0 0 0) hi;have h3:=anC l gZ (ax.mk 0 0 0 0) hi;have h4:((l.take i).flatMap λv=>[v.ci,v.cd]).length=2*i:=by
  have:∀m:List aF,(m.flatMap λv=>[v.ci,v.cd]).length=2*m.length:=by
   intro m;induction m with
   |nil=>rfl
   |cons a m ih=>simp[ih];omega
  rw[this,length_take];omega
 generalize (l.take i).map gZ++List.replicate (l.length -i) (ax.mk 0 0 0 0)=B at h1 h2;have e0:(((0:Nat):Int)+i).toNat=i:=by omega
 have et:(l.length:Int).toNat=l.length:=by omega
 have hb:ax.mk l[i].ci l[i].cE l[i].cd l[i].cD=gZ l[i]:=rfl;have hiB:i<B.length:=by omega
 rw[<- h2]at h3;have g3:bj (B.set i (gZ l[i])) ((0:Nat)+i)=some (gZ l[i]):=by rw[EU];exact h3
 have hs:sub ([(gZ l[i]).x0,(gZ l[i]).x1]:List Int) 0 2=[(gZ l[i]).x0,(gZ l[i]).x1]:=rfl;have hap:bJ (2*i) (2*i) 2 2 8=true:=bX (by omega) (by simp[maxLen];omega);have hl2:([(gZ l[i]).x0,(gZ l[i]).x1]:List Int).length=2:=rfl;simp only[gD,cu hi,aj,aZ hi,bK hi,ai,et,bK hiB,e0,hb,g3,hs,hl2,h4,hap,eu,aH,bf i];rw[<- h2,iR hi,List.flatMap_append];rfl;simp only[gD,O3,au,aH,aj,List.take_length];simp
def cst(x w:Int)(s:Int×Int)(r:ax):Int×Int:=
 bif decide (r.x0<=x)&&(decide (x<r.x1)&&decide (r.y1>s.2))then(i64.wrap (s.1+i64.wrap (i64.wrap w*i64.wrap (r.y1 -max s.2 r.y0))),r.y1)else s
def Q3(R:List ax)(X:List Int)(n:Int)(k:Nat):Int:=(R.foldl (cst (X.getD k 0) (X.getD (k+1) 0 -X.getD k 0)) (n,0)).1
def aip(R:List ax)(X:List Int):Int:=(List.range (X.length -1)).foldl (Q3 R X) 0
def Tr(l:List aF):Int:=aip (jq xF (l.map gZ)) (kr pm (l.flatMap λv=>[v.ci,v.cd]))
theorem anE{l:List aF}{R:List ax}{X:List Int} w2 (hR:R.length=l.length) (hX:X.length=w2.length) (hl:l.length<=1000) (hn:1001<=n) {k:Nat} (hk:k+1<w2.length) (hw:w2.length<=10000) s:iter (gF l w2 R X k) n (s,0,0)=some (Q3 R X s k):=by
 have et:((l.length:Int).toNat)=l.length:=by omega
 have ew:i64.wrap (k+1)=(k+1:Nat):=aL (by omega);have g1:X.getD k 0=X[k]'(by omega):=by simp[show k<X.length by omega]
 have g2:X.getD (k+1) 0=X[k+1]'(by omega):=by simp[show k+1<X.length by omega]
 unfold Q3;rw[g1,g2];refine gq (l:=R) (step:=gF l w2 R X k) (λ i (s:Int×Int)=>(s.1,s.2,i)) (λ r s=>cst (X[k]'(by omega)) (X[k+1]'(by omega) -X[k]'(by omega)) s r) (λ s=>s.1) (λ i hi v=>?_) (λ v=>?_) n (by omega) (s,0);obtain⟨a,b⟩:=v;simp only[gF,et,cu (show i<l.length by omega),aj,aZ (show i<l.length by omega),bK (show i<R.length by omega),ai,aZ (show k<w2.length by omega),bK (show k<X.length by omega),ew,aZ hk,bK (show k+1<X.length by omega),bf i,cst];cases decide ((R[i]'(by omega)).x0<=X[k]'(by omega))with
 |false=>rfl
 |true=>
  simp;cases decide (X[k]'(by omega)<(R[i]'(by omega)).x1)with
  |false=>rfl
  |true=>
   cases decide ((R[i]'(by omega)).y1>b)<;>rfl
 obtain⟨a,b⟩:=v;simp[gF,hR]
theorem anF a1 a8 {a9:List aF} (hl:a9.length<=1000) (hn:10000<=n):∀a0 a2 a3 a4 a5 a6 a7,iP n a0 a1 a2 a3 a4 a5 a6 a7 a8 a9=some (Tr a9,a0,a1,a2,a3,a4,a5,a6,a7,a8,a9):=by
 have et:((a9.length:Int).toNat)=a9.length:=by omega
 have mk:qH (a9.length:Nat) 32=true:=ajM (by omega) (by simp[maxLen];omega);have d1:decide ((a9.length:Nat)<=(a9.length:Nat))=true:=by simp
 have d2:decide (0<=(a9.length:Nat))=true:=by simp
 have hz:az 0 ([]:List Int).length=true:=rfl;have hx:(a9.flatMap λv=>[v.ci,v.cd]).length<=2000:=by
  have:∀m:List aF,(m.flatMap λv=>[v.ci,v.cd]).length=2*m.length:=by
   intro m;induction m with
   |nil=>rfl
   |cons a m ih=>simp[ih];omega
  rw[this];omega
 unfold iP;rw[et,anD hl (by omega)];unfold Tr;generalize (a9.flatMap λv=>[v.ci,v.cd])=W at hx;have srt:=KN (n:=n) (l:=a9.map gZ) (φ:=λy1=>iO y1.1 y1.2.1) (λ x y=>if x.y0<y.y0 then -1 else if y.y0<x.y0 then 1 else 0) (λ x y=>by show iO x y=_;unfold iO;rw[kR];rfl) (λ x y=>by unfold xF;rw[decide_eq_decide];constructor;intro h;split at h;assumption;split at h<;>omega;intro h;rw[aU h];decide) (by simp;omega) (by simp;omega);have hm:az a9.length (a9.map gZ).length=true:=by simp
 have hR:(jq xF (a9.map gZ)).length=a9.length:=by rw[EX ajO];simp
 have hX:(kr pm W).length=W.length:=(EZ pm W).length_eq;simp[mk,srt,kS (show W.length<1099511627776 by omega) (show W.length<n by omega)];generalize jq xF (a9.map gZ)=R at hR;generalize kr pm W=X at hX;have key:iter (gG n a9 W R X) n (0,0)=some (aip R X):=by
  have eN:max 0 (i64.wrap ((W.length:Nat) -1))=(W.length -1:Nat):=by
   cases h:W.length with
   |zero=>rfl
   |succ k=>rw[lF (by omega) (by omega)];omega
  have hrl:(List.range (X.length -1)).length=W.length -1:=by rw[List.length_range];omega
  unfold aip;refine gq (l:=List.range (X.length -1)) (step:=gG n a9 W R X) (λ i s=>(s,i)) (λ k s=>Q3 R X s k) (λ s=>s) (λ i hi s=>?_) (λ s=>?_) n (by omega) 0;have hi':i<W.length -1:=by omega
  simp only[gG,eN,cu hi',aj,anE (n:=n) (l:=a9) (R:=R) (X:=X) W hR hX hl (by omega) (k:=i) (by omega) (by omega) s,ai,bf i,List.getElem_range];simp[gG,eN,hrl]
 rw[key];exact λ_ _ _ _ _ _ _=>rfl
def ON(b:ax)(k:Int):ax:=⟨b.x0 -k,b.y0 -k,b.x1+k,b.y1+k⟩
def FM(area:List ax)(b:ax)(k:Int):Bool:=fx (ON b k)&&decide (area.foldl (λ s y=>Yj (ON b k) s y) 0=Pa (ON b k))
theorem alb(b:ax) k a2 a3 a4 a5 a6 a7 a8 a9 {k9:List ax} ud (hb:fx b=true) (h0:0<=k) (h1:k<=1048576) (hl:k9.length<=1000) (hn:1001<=n):
 jU n b k a2 a3 a4 a5 a6 a7 a8 a9 k9 ud=some (FM k9 b k,a2,a3,a4,a5,a6,a7,a8,a9,k9,ud):=by
 rw[ao7]at hb;unfold jU BP FM;rw[dw (x:=b.x0 -k),dw (x:=b.y0 -k),dw (x:=b.x1+k),dw (x:=b.y1+k),show ax.mk (b.x0 -k) (b.y0 -k) (b.x1+k) (b.y1+k)=ON b k from rfl,jI];generalize ON b k=g;simp;cases hg:fx g with
 |false=>simp
 |true=>
  have key:=gq (l:=k9) (step:=iK k9 (g,true)) (λ i s=>(s,i)) (λ y s=>Yj g s y) (λ s=>s) (λ i hi s=>by
   simp only[iK,cu hi,aj,aQ hi,ai,zL,bf i,Yj];cases h1:fx g with
   |false=>rfl
   |true=>
    cases h2:fx k9[i]with
    |false=>rfl
    |true=>
     cases h3:fx (Gm g k9[i])with
     |false=>rfl
     |true=>simp[DJ h3]) (λ s=>by simp[iK]) n (by omega) 0
  rw[fL]at key;simp[key,DJ hg];congr 2
def Rm(p:Int->Bool):Nat->Int->Int->Int
 | 0,lo,_=>lo
 |k+1,lo,hi=>bif decide (lo<hi)then(bif p ((lo+hi+1)/2)then Rm p k ((lo+hi+1)/2) hi else Rm p k lo ((lo+hi+1)/2 -1))else lo
theorem ady(p:Int->Bool):∀k lo hi,lo<=hi->lo<=Rm p k lo hi/\Rm p k lo hi<=hi
 | 0,lo,hi,h=>by simp[Rm];omega
 |k+1,lo,hi,h=>by
  simp[Rm];by_cases h1:lo<hi;have e:decide (lo<hi)=true:=by simpa using h1
  rw[e,aj];cases p ((lo+hi+1)/2)with
  |true=>have:=ady p k ((lo+hi+1)/2) hi (by omega);simp;omega
  |false=>have:=ady p k lo ((lo+hi+1)/2 -1) (by omega);simp;omega
  have e:decide (lo<hi)=false:=by simpa using h1
  rw[e,au];omega
theorem aiq{v:aF}(hv:fx (gZ v)=true) a2 a3 a4 a5 a6 a7 a8 a9 {k9:List ax} ud (hl:k9.length<=1000) (hn:1001<=n):
 ∀(k:Nat) lo hi m,0<=lo->lo<=hi->hi<=1048576->hi -lo<2 ^ k->k<m->iter (eO n v) m (lo,hi,a2,a3,a4,a5,a6,a7,a8,a9,k9,ud)=some (Rm (FM k9 (gZ v)) k lo hi,a2,a3,a4,a5,a6,a7,a8,a9,k9,ud):=by
 intro k
 induction k with
 |zero=>
  intro lo hi m h0 h1 h2 h3 hm;obtain⟨q,rfl⟩:∃q,m=q+1:=⟨m -1,by omega⟩;have:lo=hi:=by simp at h3;omega
  subst this;refine fI ?_;have e:decide (lo<lo)=false:=by simp
  simp[eO,Rm]
 |succ k ih=>
  intro lo hi m h0 h1 h2 h3 hm;obtain⟨q,rfl⟩:∃q,m=q+1:=⟨m -1,by omega⟩;have hp:(2:Int) ^ (k+1)=2*2 ^ k:=by rw[Int.pow_succ];omega
  rw[hp]at h3;by_cases hlt:lo<hi;have e:decide (lo<hi)=true:=by simpa using hlt
  have e2:((2:Nat) !=0)=true:=rfl;have em:i64.wrap (Int.tdiv (i64.wrap (i64.wrap (lo+hi)+1)) 2)=(lo+hi+1)/2:=by rw[dw (x:=lo+hi),dw (x:=lo+hi+1),Int.tdiv_eq_ediv_of_nonneg (by omega),dw (by omega) (by omega)]
  have hi2:=alb (n:=n) (gZ v) ((lo+hi+1)/2) a2 a3 a4 a5 a6 a7 a8 a9 (k9:=k9) ud hv (by omega) (by omega) hl hn;unfold gZ at hi2;cases hc:FM k9 (gZ v) ((lo+hi+1)/2)with
  |true=>
   rw[jL (v':=((lo+hi+1)/2,hi,a2,a3,a4,a5,a6,a7,a8,a9,k9,ud)) (by unfold gZ at hc;simp[eO,e,em,hi2,hc]),ih _ _ _ (by omega) (by omega) (by omega) (by omega) (by omega)];simp[Rm,e,hc]
  |false=>
   rw[jL (v':=(lo,(lo+hi+1)/2 -1,a2,a3,a4,a5,a6,a7,a8,a9,k9,ud)) (by unfold gZ at hc;simp[eO,e,em,hi2,hc,dw (x:=(lo+hi+1)/2 -1)]),ih _ _ _ (by omega) (by omega) (by omega) (by omega) (by omega)];simp[Rm,e,hc]
  have e:decide (lo<hi)=false:=by simpa using hlt
  refine fI ?_;simp[eO,e,Rm]
def DK(area:List ax)(l:List aF):Int:=l.foldl (λ b v=>Rm (FM area (gZ v)) 21 0 b) 1048576
theorem air a0 a1 a2 a3 a4 a5 a6 a7 {a8:List ax} {a9:List aF} (hv:∀v∈a9,okV v=true) (hl:a9.length<=1000) (h8:a8.length<=1000) (hn:1001<=n):jy n a0 a1 a2 a3 a4 a5 a6 a7 a8 a9=some (DK a8 a9,a0,a1,a2,a3,a4,a5,a6,a7,a8,a9):=by have key:=dN (l:=a9) (step:=iy n a9) (λ i s=>(s,i,a0,a1,a2,a3,a4,a5,a6,a7,a8,a9)) (λ v s=>Rm (FM a8 (gZ v)) 21 0 s) (λ s=>(s,a0,a1,a2,a3,a4,a5,a6,a7,a8,a9)) (λ _ s=>0<=s/\s<=1048576) (λ i hi s hs=>by have h1:=aiq (n:=n) (Yp (hv _ (getElem_mem hi))) a0 a1 a2 a3 a4 a5 a6 a7 (k9:=a8) a9 h8 hn 21 0 s n (by omega) hs.1 hs.2 (by have:2 ^ 21=2097152:=rfl;omega) (by omega);have h2:=ady (FM a8 (gZ a9[i])) 21 0 s hs.1;refine⟨?_,by omega,by omega⟩;simp only[iy,cu hi,aj,aZ hi,bK hi,ai,aH,h1,bf i]) (λ s _=>by simp[iy]) n (by omega) 1048576 (by omega);rw[fL]at key;unfold jy;simp[key];rfl
def gu(d:aO):List aF:=((lq d).take 40).filter okV
theorem adz(d:aO):∀v∈gu d,okV v=true:=λv hv=>(List.mem_filter.1 hv).2
theorem aae(d:aO):(gu d).length<=40:=Nat.le_trans (length_filter_le _ _) (by rw[length_take];omega)
def q9(lot:fE):List ax:=bif c7 lot.area then lot.area else []
theorem aq8{l:List aF} a0 a1 a2 a3 a4 a5 a6 a7 a8 (hl:l.length<=9223372036854775807) (hn:l.length<n):
 iter (rO l) n (0,a0,a1,a2,a3,a4,a5,a6,a7,a8,[])=some (a0,a1,a2,a3,a4,a5,a6,a7,a8,(l.take 40).filter okV):=by
 refine KD (step:=rO l) (λ i=>(i,a0,a1,a2,a3,a4,a5,a6,a7,a8,((l.take i).take 40).filter okV)) l.length _ (by simp) (λ i hi=>?_) ?_ n hn;have hlen:(((l.take i).take 40).filter okV).length<=40:=Nat.le_trans (length_filter_le _ _) (by rw[length_take];omega);have e40:decide ((i:Int)<40)=decide (i<40):=by rw[decide_eq_decide];omega
 have hs:sub ([l[i]]:List aF) 0 1=[l[i]]:=rfl;have hN:((l.take (i+1)).take 40).filter okV=((l.take i).take 40).filter okV++(bif decide (i<40)&&okV l[i]then [l[i]]else []):=by
  by_cases h:i<40;have h1:(l.take i).take 40=l.take i:=take_of_length_le (by rw[length_take];omega);have h2:(l.take (i+1)).take 40=l.take (i+1):=take_of_length_le (by rw[length_take];omega);have h3:decide (i<40)=true:=by simpa using h
  rw[h1,h2,iR hi,List.filter_append,h3];cases h4:okV l[i]<;>simp[h4];have h3:decide (i<40)=false:=by simpa using h
  rw[List.take_take,List.take_take,h3,show min 40 (i+1)=40 by omega,show min 40 i=40 by omega];simp
 rw[hN];generalize ((l.take i).take 40).filter okV=L at hlen;have hap:bJ L.length L.length 1 1 72=true:=bX (by omega) (by simp[maxLen];omega);simp only[rO,cu hi,aj,aZ hi,bK hi,ai,e40,uZ,bf i];cases decide (i<40)with
 |false=>simp
 |true=>
  simp;cases okV l[i]with
  |false=>simp
  |true=>simp[hs,hap]
 simp[rO]
def ais(n:Nat)(p:bO):Prop:=p.tables.length<n/\p.tables.length<=9223372036854775807/\∀t∈p.tables,t.rows.length<n/\t.rows.length<=9223372036854775807
def DL:ByteArray:=⟨#[115,101,116,98,97,99,107]⟩
def S7(n:Nat)(ts:List bQ)(A:List ax)(l:List aF):List bg:=[⟨⟨#[97,114,101,97]⟩,bif c7 A then MJ A else 0⟩,⟨⟨#[99,111,118,101,114]⟩,Tr l⟩,⟨⟨#[102,108,111,111,114]⟩,HR Rl l⟩,⟨⟨#[102,108,111,111,114,115]⟩,R0 OS l⟩,⟨⟨#[104,101,105,103,104,116]⟩,R0 (·.ez) l⟩,⟨⟨#[104,111,109,101,115]⟩,HR (·.units) l⟩,⟨⟨#[114,117,110,111,102,102]⟩,Tr l⟩,⟨DL,DK A l⟩,⟨⟨#[116,114,97,102,102,105,99]⟩,HR (apG n ts) l⟩]
theorem apH{p:bO}{lot:fE}{d:aO}(hp:ais n p)(hl:lot.area.length<=900)(hd:Ul d)(hn:2000000<=n):∀D Z R C V S H,kM n (bO.mk D p.tables Z R C V S H) lot d=some (S7 n p.tables (q9 lot) (gu d)):=by
 have hs1:q9 lot=(bif c7 lot.area then lot.area else []):=rfl;have hsl:(q9 lot).length<=900:=by unfold q9;cases c7 lot.area<;>simp[hl]
 have hvl:=aae d;have Kf:=adz d;have hfl:=ft hd.2;have hd1:=hd.1;obtain⟨hp1,hp2,hp3⟩:=hp;have hz:az 0 ([]:List aF).length=true:=rfl;have Kx:∀D Z R C V S H,((bif c7 lot.area then some (D,p.tables,Z,R,C,V,S,H,lot.area)else some (D,p.tables,Z,R,C,V,S,H,[])):Option ((List gK)×(List bQ)×(List fG)×(List cK)×(List jE)×(List iw)×(List dH)×Int×(List ax)))=some (D,p.tables,Z,R,C,V,S,H,q9 lot):=by intro D Z R C V S H;rw[hs1];cases c7 lot.area<;>rfl
 have h2:=anF (n:=n) p.tables (q9 lot) (a9:=gu d) (by omega) (by omega);have h3:=aqj (n:=n) p.tables (q9 lot) (a9:=gu d) (by omega) (by omega);have h4:=anx (n:=n) p.tables (q9 lot) (a9:=gu d) (by omega) (by omega);have h5:=anz (n:=n) p.tables (q9 lot) (a9:=gu d) (by omega) (by omega);have h6:=aqk (n:=n) p.tables (q9 lot) (a9:=gu d) (by omega) (by omega);have h8:=λD Z R C V S H=>air (n:=n) D p.tables Z R C V S H (a8:=q9 lot) (a9:=gu d) Kf (by omega) (by omega) (by omega);have h9:=aqm (n:=n) p.tables (q9 lot) (a9:=gu d) (by omega) (by omega) Kf hp1 hp2 hp3;intro D Z R C V S H;unfold kM;rw[jk (by omega) (by omega) (by omega),Yq hd (by omega)];simp[Kx];rw[aq8 (n:=n) D p.tables Z R C V S H (q9 lot) (by show(lq d).length<=_;unfold lq;omega) (by show(lq d).length<_;unfold lq;omega)];have hr:((lq d).take 40).filter okV=gu d:=rfl;have s1:∀e:bg,sub ([e]:List bg) 0 1=[e]:=λ_=>rfl;have ap:∀k,k<=20->bJ k k 1 1 24=true:=λk hk=>bX (by omega) (by simp[maxLen];omega);have lot:nI n D p.tables Z R C V S H (q9 lot) (gu d)=some (bif c7 (q9 lot)then MJ (q9 lot)else 0,D,p.tables,Z,R,C,V,S,H,q9 lot,gu d):=by unfold nI;rw[Yb (by omega) (by omega)];simp
 simp[hr,lot,h2,h3,h4,ap 4 (by omega),h5,ap 5 (by omega),h6,ap 6 (by omega),h8,ap 7 (by omega),h9,ap 8 (by omega),Nat.reduceAdd,dO];rfl
theorem aqn{p:bO}{lot:fE}{d:aO}(hp:ais n p)(hl:lot.area.length<=900)(hd:Ul d)(hn:2000000<=n):∃e1 e2 e3 e4 e5 e6 e7 e8:Int,∀D Z R C V S H,kM n (bO.mk D p.tables Z R C V S H) lot d=some [⟨⟨#[97,114,101,97]⟩,e1⟩,⟨⟨#[99,111,118,101,114]⟩,e2⟩,⟨⟨#[102,108,111,111,114]⟩,e3⟩,⟨⟨#[102,108,111,111,114,115]⟩,e4⟩,⟨⟨#[104,101,105,103,104,116]⟩,e5⟩,⟨⟨#[104,111,109,101,115]⟩,e6⟩,⟨⟨#[114,117,110,111,102,102]⟩,e7⟩,⟨DL,DK (q9 lot) (gu d)⟩,⟨⟨#[116,114,97,102,102,105,99]⟩,e8⟩]:=⟨_,_,_,_,_,_,_,_,apH (n:=n) hp hl hd hn⟩
theorem aq9{p:bO}{lot:fE}{d:aO}(hp:ais n p)(hl:lot.area.length<=900)(hd:Ul d)(hn:2000000<=n):∃e1 e2 e3 e4 e5 e6 e7 e8:Int,∀R:List cK,kM n (bO.mk p.defs p.tables p.zones R p.caps p.views p.wA p.hours) lot d=some [⟨⟨#[97,114,101,97]⟩,e1⟩,⟨⟨#[99,111,118,101,114]⟩,e2⟩,⟨⟨#[102,108,111,111,114]⟩,e3⟩,⟨⟨#[102,108,111,111,114,115]⟩,e4⟩,⟨⟨#[104,101,105,103,104,116]⟩,e5⟩,⟨⟨#[104,111,109,101,115]⟩,e6⟩,⟨⟨#[114,117,110,111,102,102]⟩,e7⟩,⟨DL,DK (q9 lot) (gu d)⟩,⟨⟨#[116,114,97,102,102,105,99]⟩,e8⟩]:=by have⟨e1,e2,e3,e4,e5,e6,e7,e8,h⟩:=aqn (n:=n) hp hl hd hn;exact⟨e1,e2,e3,e4,e5,e6,e7,e8,λR=>h _ _ R _ _ _ _⟩
def No(p:lu):Bool:=decide (p.bx.length>12) || decide (p.gives.length>6)
def Nm(d:aO):Bool:=!(d.phases.any No)&&decide (d.phases.length<=9)
theorem Yt{d:aO}(h:d.phases.length<=1000000000000000000)(hn:d.phases.length<n)(hn2:10<=n):pq n [d]=some (Nm d):=by
 have a0:bj [d] 0=some d:=rfl;have s2:=yX (l:=d.phases) (step:=oH [d] 0) No () (.inr (.inr false)) (λ i hi=>by
  have d1:decide ((((d.phases[i]).bx.length:Nat):Int)>12)=decide ((d.phases[i]).bx.length>12):=by rw[decide_eq_decide];omega
  have d2:decide ((((d.phases[i]).gives.length:Nat):Int)>6)=decide ((d.phases[i]).gives.length>6):=by rw[decide_eq_decide];omega
  simp only[oH,a0,ai,cu hi,aj,aQ hi,d1,d2,bf i,No];cases decide ((d.phases[i]).bx.length>12)<;>cases decide ((d.phases[i]).gives.length>6)<;>rfl) (by simp only[oH,a0,ai,O3,au]) n hn
 obtain⟨m,rfl⟩:∃m,n=m+2:=⟨n -2,by omega⟩;have d3:decide ((d.phases.length:Int)>9)=!decide (d.phases.length<=9):=by rw[<- decide_not,decide_eq_decide];omega
 have l1:decide ((0:Int)<(([d].length:Nat):Int))=true:=rfl;unfold pq Nm;cases hb:d.phases.any No with
 |true=>
  rw[hb]at s2;rw[fI (o:= .inr false) (by simp only[kQ,l1,aj,s2];rfl)];rfl
 |false=>
  rw[hb]at s2;cases h9:decide (d.phases.length<=9)with
  |false=>
   rw[fI (o:= .inr false) (by simp only[kQ,l1,aj,s2,au,iC,a0,ai,d3,h9,Bool.not_false,Option.map_some])];rfl
  |true=>
   rw[jL (v':=1) (by simp only[kQ,l1,aj,s2,au,iC,a0,ai,d3,h9,Bool.not_true];rfl),fI (o:= .inl ()) (by simp only[kQ];rfl)];rfl
theorem ajS(ds:List (ByteArray×ET)) s:∀(k:Nat) i,Om ds s k=some i->0<=i/\i<k
 | 0,i,h=>by simp[Om]at h
 |k+1,i,h=>by simp[Om]at h;split at h;cases h;omega;have:=ajS ds s k i h;omega
theorem apb{ds:List (ByteArray×ET)}(h:s9 ds<=4000000):Z4 (pU ds) ds.length:=by have hl:=Vp ds;refine⟨by simp[pU],by omega,λl hl=>?_⟩;simp only[pU,mem_map]at hl;obtain⟨d,hd,rfl⟩:=hl;have h1:=Vq hd;have h2:=ET.p4 d.2;have h3:=afj d.2.names;refine⟨Nat.le_trans (List.length_filterMap_le _ _) (by omega),λk hk=>?_⟩;simp[iq]at hk;obtain⟨s,_,hk⟩:=hk;exact ajS ds s _ k hk
theorem afZ{M:List ByteArray}(hM:M.length<=1000)(hn:1001<=n)(w0:List (ByteArray×Bool)):∃w,iter (o7 M) n (0,w0)=some w:=by obtain⟨o,h,_⟩:=fq (step:=o7 M) (λ i (v:Int×List (ByteArray×Bool))=>∃w,v=((i:Int),w)/\i<=M.length) (λ _=>True) M.length (λ k v ⟨_,_,h⟩=>h) (by rintro i v ⟨w,rfl,hi⟩;by_cases hlt:i<M.length;simp only[o7,show decide ((i:Int)<M.length)=true from by simp;omega,aj,aZ hlt,bK hlt,ai,bf i];exact .inl ⟨_,rfl,_,rfl,hlt⟩;simp only[o7,show decide ((i:Int)<M.length)=false from by simp;omega,au];exact .inr ⟨_,rfl,trivial⟩) n 0 (0,w0) ⟨_,rfl,Nat.zero_le _⟩ (by omega);exact⟨o,h⟩
theorem af0{p:bO}(hp:p.defs.length<=4000000)(hn:4000001<=n)(w0:List (ByteArray×Bool)):iter (lN p) n (0,w0)=some (.inl ())\/iter (lN p) n (0,w0)=some (.inr ([],[],5)):=by
 obtain⟨o,h,h2⟩:=fq (step:=lN p) (λ i (v:Int×List (ByteArray×Bool))=>∃w,v=((i:Int),w)/\i<=p.defs.length) (λ o=>o= .inl ()\/o= .inr ([],[],5)) p.defs.length (λ k v ⟨_,_,h⟩=>h) (by
  rintro i v ⟨w,rfl,hi⟩;by_cases hlt:i<p.defs.length;simp only[lN,show decide ((i:Int)<p.defs.length)=true from by simp;omega,aj,aQ hlt,ai,bf i];cases (gH Gb.fi p.defs[i].name w).getD false with
  |true=>exact .inr ⟨_,rfl,.inr rfl⟩
  |false=>exact .inl ⟨_,rfl,_,rfl,hlt⟩
  simp only[lN,show decide ((i:Int)<p.defs.length)=false from by simp;omega,au];exact .inr ⟨_,rfl,.inl rfl⟩) n 0 (0,w0) ⟨_,rfl,Nat.zero_le _⟩ (by omega)
 rcases h2 with rfl |rfl;exact .inl h;exact .inr h
theorem af2:∃M,oZ=some M/\M.length=9:=⟨_,rfl,rfl⟩
def iz(l:List gK):Prop:=s9 (l.map toD)<=4000000
theorem iz.len{l:List gK}(h:iz l):l.length<=4000000:=by have:=Vp (l.map toD);rw[length_map]at this;unfold iz at h;omega
theorem iz.body{l:List gK}(h:iz l){d:gK}(hd:d∈l):(toE (dh.mk d.j7 d.mC d.lz d.ju d.fj)).wt<=4000000:=by have h1:=Vq (mem_map.2 ⟨d,hd,rfl⟩:toD d∈l.map toD);unfold iz at h;simp[toD,ET.wt]at h1;simp[toE,ET.wt];omega
theorem Um{p:bO}(hp:iz p.defs)(hn:5000003<=n):∃r,oF n p=some r/\r.1.length<=p.defs.length/\(∀ k∈r.1,0<=k/\k<p.defs.length)/\r.2.1.length<=p.defs.length+1:=by
 obtain⟨M,hM,hM9⟩:=af2;obtain⟨w,hw⟩:=afZ (n:=n) (M:=M) (by omega) (by omega) [];have hg:Z4 (pU (p.defs.map toD)) p.defs.length:=by have:=apb hp;rwa [length_map]at this
 have Lk:lM p.defs=some (p.defs,pU (p.defs.map toD)):=by unfold lM;rw[Nat.ble_eq_true_of_le hp];rfl
 simp only[oF,hM,ai,hw];rcases af0 (n:=n) (p:=p) hp.len (by omega) w with h |h;have⟨c,hc,hc2,hc3⟩:=afw (n:=n) (a0:=p.defs) hg rfl hn;simp only[h,iC,Lk,ai,hc];cases h0:(c.length==0)with
 |true=>
  have e:c=[]:=List.eq_nil_of_length_eq_zero (by simpa using h0);obtain⟨l,hl,hll,hlr⟩:=anj (n:=n) (a0:=qi.mk p.defs (pU (p.defs.map toD))) hg rfl (hc2 e) (by omega);simp only[aj,ai,au,hl,dO,aH];exact⟨_,rfl,by simp[hll],hlr,by simp⟩
 |false=>
  simp only[aj,ai,au,dO,aH];exact⟨_,rfl,by simp,by simp,hc3⟩
 simp only[h,tq];exact⟨_,rfl,by simp,by simp,by simp⟩
theorem DR(x:dh):dh.mk x.op x.n x.s x.key x.args=x:=by cases x;rfl
theorem Ph:∀l:List dh,Jf l=l.map toE
 |[]=>rfl
 |x::xs=>by simp[Jf,Ph xs]
theorem ajT:∀{l:List ET}{t:ET},t∈l->t.wt<=ET.ur l
 |x::l,t,h=>by simp[ET.ur];rcases aI.1 h with rfl |h;omega;have:=ajT h;omega
theorem ait{e x:dh}(h:x∈e.args):(toE x).wt<(toE e).wt:=by have h1:(toE x).wt<=ET.ur (Jf e.args):=ajT (by rw[Ph];exact mem_map.2 ⟨x,h,rfl⟩);cases e;simp[toE,ET.wt]at *;omega
theorem VE(e:dh):e.args.length<(toE e).wt:=by have h1:=ET.sq (Jf e.args);rw[Ph,length_map]at h1;cases e;simp[toE,ET.wt,Ph]at *;omega
def VR:Nat->dh->Prop
 | 0,_=>False
 |k+1,e=>zD e.op=some ((e.args.length:Int),true)/\∀x∈e.args,VR k x
theorem aiu op:∃a b,zD op=some (a,b):=by simp only[zD];cases (op==0)<;>cases (op==1)<;>cases (op==2)<;>cases (op==3)<;>cases (op==9)<;>cases (op==15)<;>cases (op==16)<;>cases (decide (op>=0))<;>exact⟨_,_,rfl⟩
theorem ab0(hn:4000002<=n):∀(m:Nat)(e:dh)(a:Int),m<=9223372036854775000->0<=a->a<=12->13<=a+m->(toE e).wt<=4000000->∃r,tJ n m e a=some r/\1<=r/\r<=13+m/\(r<=12->VR m e)
 | 0,_,_,_,_,_,h,_=>absurd h (by omega)
 |m+1,e,a,hm,h0,h1,h2,h3=>by
  have⟨x,b,hx⟩:=aiu e.op;have hla:=VE e;show ∃r,A7 n (tJ n m) e a=some r/\_;simp[A7,hx];have bad:∃r,some (13:Int)=some r/\1<=r/\r<=13+(m+1:Nat)/\(r<=12->VR (m+1) e):=⟨13,rfl,by omega,by omega,λh=>absurd h (by omega)⟩;cases b with
  |false=>simpa[Bool.not_false,aj,ai]using bad
  |true=>
   simp;by_cases hxl:x=e.args.length;subst hxl;simp;by_cases ha:a>=12;simpa[ha,decide_true,aj]using bad;simp[ha]
   obtain⟨o,g1,g2,g3,g4⟩:=fq (step:=yH n (tJ n m) e a) (λ i (v:Int×Int)=>v.2=i/\i<=e.args.length/\0<=v.1/\v.1<=13+m/\(v.1<=11->∀y∈e.args.take i,VR m y))
    (λ o=>0<=o/\o<=13+m/\(o<=11->∀y∈e.args,VR m y)) e.args.length (λ k v h=>h.2.1) (by rintro i ⟨v2,v3⟩ ⟨hv,hi,i1,i2,i3⟩;simp at hv i1 i2 i3;subst hv;by_cases hlt:i<e.args.length;left;have hwx:=ait (getElem_mem hlt);obtain⟨r,r1,r2,r3,r4⟩:=ab0 hn m e.args[i] (a+1) (by omega) (by omega) (by omega) (by omega) (by omega);refine⟨(max v2 r,(i+1:Nat)),?_,rfl,hlt,by show 0<=max v2 r;omega,by show max v2 r<=_;omega,λh y hy=>?_⟩;simp only[yH,show decide ((i:Int)<e.args.length)=true from by simp;omega,aj,aQ hlt,ai,DR,dw (show -9223372036854775808<=a+1 by omega) (show a+1<=9223372036854775807 by omega),r1,bf i];have h':max v2 r<=11:=h;rw[List.take_add_one,dF hlt]at hy;rw[bP]at hy;rcases hy with hy |hy;exact i3 (by omega) y hy;simp at hy;subst hy;exact r4 (by omega);right;refine⟨v2,?_,i1,i2,λh y hy=>i3 h y (by rw[take_of_length_le (by omega)];exact hy)⟩;simp only[yH,show decide ((i:Int)<e.args.length)=false from by simp;omega,au]) n 0 (0,0) ⟨rfl,Nat.zero_le _,by simp,by show 0<=_;omega,by simp⟩ (by omega)
   simp only[g1,ai];rw[dw (by omega) (by omega)];exact⟨o+1,rfl,by omega,by omega,λh=>⟨hx,g4 (by omega)⟩⟩;simpa[show (x !=(e.args.length:Nat))=true from by simpa using hxl,aj,ai]using bad
theorem TA(hn:4000002<=n)(hn2:n<=9223372036854775000){e:dh}(h:(toE e).wt<=4000000):∃b,Je n e=some b/\(b=true->VR n e):=by obtain⟨r,h1,h2,h3,h4⟩:=ab0 hn n e 0 hn2 (by omega) (by omega) (by omega) h;refine⟨decide (r<=12),?_,λh=>h4 (by simpa using h)⟩;simp[Je,DR,Q0,h1]
def ara(tables:List bQ)(s key:ByteArray):Int:=match tables.find? λt=>ByteArray.toList t.name==ByteArray.toList s with
 |some t=>So t key
 |none=>0
def S6(ts:List bQ):Prop:=ts.length<=4000000/\∀t∈ts,t.rows.length<=4000000
theorem alc(hn:4000002<=n){a0:List gK}{ts:List bQ}{a2:List fG}{a3:List cK}{a4:List jE}{a5:List iw}{a6:List dH}{a7:Int}{zs:List ByteArray}(ht:S6 ts)(e:dh)(kn:List (ByteArray×Int)):jC n a0 ts a2 a3 a4 a5 a6 a7 zs e kn=some (ara ts e.s e.key,kn):=by
 have h1:=ht.1;simp[jC];rw[vI (λ t=>ByteArray.toList t.name==ByteArray.toList e.s) (λ x _=>rfl) (by omega) (by omega)];simp[ara];rcases FD (λ t:bQ=>ByteArray.toList t.name==ByteArray.toList e.s) ts with ⟨i,hi,h1,h2⟩ |⟨h1,h2⟩;rw[h1,h2];have d:decide ((i:Int)<0)=false:=by simp
 have hr:=ht.2 _ (getElem_mem hi);simp[d,aQ hi];rw[vJ (λ x=>ByteArray.toList x.name==ByteArray.toList e.key) (λ x _=>rfl) (by omega) (by omega)];simp[So];rcases FD (λ x:bg=>ByteArray.toList x.name==ByteArray.toList e.key) ts[i].rows with ⟨j,hj,g1,g2⟩ |⟨g1,g2⟩;rw[g1,g2];have d:decide ((j:Nat)>=0)=true:=by simp
 simp[aQ hj];rw[g1,g2];rfl;rw[h1,h2];rfl
theorem eX{α:Type}{c:Bool}{x y:Option α}(hx:∃r,x=some r)(hy:∃r,y=some r):∃r,(bif c then x else y)=some r:=by cases c<;>assumption
theorem aaf(a b:Int):∃r,xI a b=some r:=by
 simp[xI];cases h:(b==0)with
 |true=>exact⟨_,rfl⟩
 |false=>
  have:(b !=0)=true:=by simp[bne,h]
  simp[this];cases (Int.tmod a b !=0)<;>cases (decide (Int.tmod a b<0)==decide (b<0))<;>exact⟨_,rfl⟩
theorem Yu b:∃r,zF b=some r:=eX ⟨_,rfl⟩ ⟨_,rfl⟩
theorem tN{α β:Type}{x:Option α}{f:α->Option β}(hx:∃r,x=some r)(hf:∀r,∃s,f r=some s):∃s,x.bind f=some s:=by obtain⟨r,rfl⟩:=hx;exact hf r
theorem af3(op a b:Int):∃r,Kv op a b=some r:=by
 have q:=aaf a b;have t:=λc=>Yu c;unfold Kv
 repeat' first
  |exact⟨_,rfl⟩
  |exact q
  |exact t _
  |apply eX
  |(refine tN ?_ λr=>?_)
theorem JB(h:0<n):cP 0 n=true:=by simp[cP];omega
theorem af4(h:1<n):cP 1 n=true:=by simp[cP];omega
theorem anI(h:2<n):cP 2 n=true:=by simp[cP];omega
theorem Pj{α:Type}{l:List α}(h:0<l.length):bj l ((0:Nat)+0)=some l[0]:=bK (i:=0) h
theorem ajV{α:Type}{l:List α}(h:1<l.length):bj l ((0:Nat)+1)=some l[1]:=bK (i:=1) h
theorem apc{α:Type}{l:List α}(h:2<l.length):bj l ((0:Nat)+2)=some l[2]:=bK (i:=2) h
theorem aag{l:List ByteArray}{s:ByteArray}(hl:l.length<=4000000)(hn:4000002<=n):∃r,dZ n l s=some r:=by
 obtain⟨o,h,_⟩:=fq (step:=oo l s) (λ i v=>v=i/\i<=l.length) (λ _=>True) l.length (λ k v h=>h.2) (by
  rintro i v ⟨rfl,hi⟩;by_cases hlt:i<l.length;simp only[oo,show decide ((i:Int)<l.length)=true from by simp;omega,aj,aQ hlt,ai,bf i];cases (ByteArray.toList s==ByteArray.toList l[i])with
  |true=>exact .inr ⟨_,rfl,trivial⟩
  |false=>exact .inl ⟨_,rfl,rfl,hlt⟩
  simp only[oo,show decide ((i:Int)<l.length)=false from by simp;omega,au];exact .inr ⟨_,rfl,trivial⟩) n 0 0 ⟨rfl,Nat.zero_le _⟩ (by omega)
 simp only[dZ,sw,h];cases o with
 |inl u=>cases u;simp only[iC,ai];exact⟨_,rfl⟩
 |inr r=>simp only[tq,ai];exact⟨_,rfl⟩
theorem ald{op a:Int}(h0:(op==0)=false)(h1:(op==1)=false)(h2:(op==2)=false)(h3:(op==3)=false)(h9:(op==9)=false)(QP:(op==15)=false)(h16:(op==16)=false)(h:zD op=some (a,true)):a=2:=by
 simp[zD,h0,h1,h2,h3,h9,QP,h16]at h;cases hd:decide (op>=0)with
 |true=>rw[hd]at h;simp at h;exact h.1.symm
 |false=>rw[hd]at h;simp at h
section
variable {n:Nat} {a0:List gK} {ts:List bQ} {a2:List fG} {a3:List cK} {a4:List jE} {a5:List iw} {a6:List dH} {a7:Int} {zs:List ByteArray}
theorem Yv(hn:4000002<=n)(ht:S6 ts)(hz:zs.length<=4000000):∀(m:Nat)(e:dh)(kn:List (ByteArray×Int)),VR m e->(toE e).wt<=4000000->∃v,bS n m a0 ts a2 a3 a4 a5 a6 a7 zs e kn=some (v,kn)
 | 0,_,_,h,_=>h.elim
 |m+1,e,kn,⟨ha,hr⟩,hw=>by
  have hla:=VE e;have hmx:maxLen=9223372036854775807:=rfl;show ∃v,fA n (bS n m) a0 ts a2 a3 a4 a5 a6 a7 zs e kn=some (v,kn)
  obtain⟨o,h1,l,rfl,hl⟩:=fq (step:=eZ n (bS n m) a0 ts a2 a3 a4 a5 a6 a7 zs e) (λ i (v:Int×List (ByteArray×Int)×List Int)=>∃l,v=((i:Int),kn,l)/\i<=e.args.length/\l.length=i)
   (λ o=>∃l,o=(kn,l)/\l.length=e.args.length) e.args.length (λ k v ⟨_,_,h,_⟩=>h) (by
   rintro i v ⟨l,rfl,hi,hl⟩;by_cases hlt:i<e.args.length;left;have hwx:=ait (getElem_mem hlt);obtain⟨x,hx⟩:=Yv hn ht hz m e.args[i] kn (hr _ (getElem_mem hlt)) (by omega);have key:∃b,((bif (e.op==(16:Int))then(bif (decide ((i:Int)>(0:Int)))then(ck (cP 0 l.length) ((bj l ((0:Nat)+0:Int)).bind λx2=>some (!((x2 !=(0:Int))==((i:Int)==1)))))else some false)else some false):Option (Bool))=some b:=(by refine eX ?_ ⟨_,rfl⟩;by_cases h0:(i:Int)>0;simp only[h0,decide_true,aj,JB (show 0<l.length by omega),Pj (show 0<l.length by omega),ai];exact⟨_,rfl⟩;simp only[h0,decide_false,au];exact⟨_,rfl⟩);obtain⟨b,hb⟩:=key;have hap:∀z:Int,bJ l.length l.length (sub [z] 0 1).length 1 8=true:=λz=>(by simp[bJ,sub];omega);simp only[eZ,show decide ((i:Int)<e.args.length)=true from by simp;omega,aj,aQ hlt,ai,hb,DR,hx,hap,eu,aH,bf i];cases b with
   |true |false=>exact⟨_,rfl,_,rfl,hlt,by simp[sub,hl]⟩
   right;refine⟨(kn,l),?_,l,rfl,by omega⟩;simp only[eZ,show decide ((i:Int)<e.args.length)=false from by simp;omega,au,aH,aj]) n 0 (0,kn,[]) ⟨[],rfl,Nat.zero_le _,rfl⟩ (by omega)
  simp only[fA,length_nil,aH,aj,h1,ai,DR,alc hn ht];cases h0:(e.op==0)with
  |true=>exact⟨_,rfl⟩
  |false=>
  cases h1:(e.op==1)with
  |true=>exact⟨_,rfl⟩
  |false=>
  cases h2:(e.op==2)with
  |true=>exact⟨_,rfl⟩
  |false=>
  cases h3:(e.op==3)with
  |true=>
   have⟨r,hr⟩:=aag (n:=n) (l:=zs) (s:=e.s) hz hn;have⟨r2,hr2⟩:=Yu r;simp only[au,aj,hr,hr2,ai];exact⟨_,rfl⟩
  |false=>
  cases h9:(e.op==9)with
  |true=>
   have e9:e.op=9:=(by simpa using h9);rw[e9]at ha;have:l.length=1:=(by have h:some (1,true)=some ((e.args.length:Int),true):=ha;simp at h;omega);simp only[au,aj,JB (show 0<l.length by omega),Pj (show 0<l.length by omega),ai];exact⟨_,rfl⟩
  |false=>
  cases QP:(e.op==15)with
  |true=>
   have e15:e.op=15:=(by simpa using QP);rw[e15]at ha;have:l.length=1:=(by have h:some (1,true)=some ((e.args.length:Int),true):=ha;simp at h;omega);obtain⟨r2,hr2⟩:=Yu (l[0]'(by omega)==0);simp only[au,aj,JB (show 0<l.length by omega),Pj (show 0<l.length by omega),ai,hr2];exact⟨_,rfl⟩
  |false=>
  cases h16:(e.op==16)with
  |true=>
   have e16:e.op=16:=(by simpa using h16);rw[e16]at ha;have:l.length=3:=(by have h:some (3,true)=some ((e.args.length:Int),true):=ha;simp at h;omega);simp only[au,aj,JB (show 0<l.length by omega),Pj (show 0<l.length by omega),af4 (show 1<l.length by omega),ajV (show 1<l.length by omega),anI (show 2<l.length by omega),apc (show 2<l.length by omega),ai];cases (l[0]'(by omega) !=0)<;>exact⟨_,rfl⟩
  |false=>
   have:l.length=2:=(by have:=ald h0 h1 h2 h3 h9 QP h16 ha;omega);obtain⟨r,hr⟩:=af3 e.op (l[0]'(by omega)) (l[1]'(by omega));simp only[au,aj,JB (show 0<l.length by omega),Pj (show 0<l.length by omega),af4 (show 1<l.length by omega),ajV (show 1<l.length by omega),ai,hr];exact⟨_,rfl⟩
end
theorem aiv{ms:List bg}(h:ms.length<=4000000)(hn:4000002<=n):∃o,iter (iZ n ms) n (0,[],[])=some o:=by obtain⟨o,h,_⟩:=fq (step:=iZ n ms) (λ i (v:Int×List (ByteArray×Int)×List (ByteArray×Bool))=>∃a b,v=((i:Int),a,b)/\i<=ms.length) (λ _=>True) ms.length (λ k v ⟨_,_,_,h⟩=>h) (by rintro i v ⟨a,b,rfl,hi⟩;by_cases hlt:i<ms.length;left;simp only[iZ,show decide ((i:Int)<ms.length)=true from by simp;omega,aj,aQ hlt,ai,bf i];cases (!((gH Gb.fi ms[i].name b).getD false))<;>exact⟨_,rfl,_,_,rfl,hlt⟩;right;simp only[iZ,show decide ((i:Int)<ms.length)=false from by simp;omega,au];exact⟨_,rfl,trivial⟩) n 0 _ ⟨[],[],rfl,Nat.zero_le _⟩ (by omega);exact⟨o,h⟩
structure aiw(p:bO):Prop where
 defs:iz p.defs
 tabs:S6 p.tables
theorem adA(a b:ByteArray):Gb.fi a b=true↔a=b:=by unfold Gb.fi;rw[beq_iff_eq,ByteArray.toList_eq,ByteArray.toList_eq];exact⟨λ h=>ByteArray.ext (Array.toList_inj.1 h),λh=>by rw[h]⟩
theorem af5{V:Type}(k k':ByteArray)(v:V)(h:k≠k'):∀l:List (ByteArray×V),gH Gb.fi k (Gr Gb.fi k' v l)=gH Gb.fi k l
 |[]=>by
  have:Gb.fi k k'=false:=by rw[Bool.eq_false_iff];exact λe=>h ((adA _ _).1 e)
  simp[Gr,gH,this]
 |p::l=>by
  have e:Gb.fi k k'=false:=by rw[Bool.eq_false_iff];exact λe=>h ((adA _ _).1 e)
  have ih:=af5 k k' v h l;simp[Gr];cases c:Gb.fi k' p.1 with
  |true=>
   have:=(adA _ _).1 c;subst this;simp[gH,e]
  |false=>simp[gH,ih]
theorem MP{p:bO}{ms:List bg}{zs:List ByteArray}(hp:aiw p)(hm:ms.length<=4000000)(hz:zs.length<=4000000)(hn:5000003<=n)(hn2:n<=9223372036854775000):∃kn out,nC n p ms zs=some (p.defs,p.tables,p.zones,p.rules,p.caps,p.views,p.wA,p.hours,zs,kn,out)/\out.length=p.defs.length/\∀w,iter (iZ n ms) n (0,[],[])=some w->∀s,(gH Gb.fi s w.2).getD false=true->gH Gb.fi s kn=gH Gb.fi s w.1:=by
 obtain⟨⟨w1,w2⟩,hs1⟩:=aiv (n:=n) hm (by omega);have⟨r,hr,hrl,hrr,_⟩:=Um (n:=n) hp.defs hn;have hl:=hp.defs.len;have hmx:maxLen=9223372036854775807:=rfl;have hmk:qH p.defs.length 8=true:=by simp[qH];omega
 simp only[nC,hs1,ai,Int.le_refl,decide_true,Bool.true_and,show decide (0<=p.defs.length)=true from by simp,hmk,aj,hr];cases hb:(r.2.2 !=0)with
 |true=>
  simp only[aj,Int.toNat_natCast,List.length_replicate,aH];exact⟨_,_,rfl,by simp,λw hw s _=>by cases hw;rfl⟩
 |false=>
  obtain⟨o,h1,kn,out,rfl,h2,h3⟩:=fq (step:=gP n p zs w2 r) (λ i (v:Int×List (ByteArray×Int)×List Int)=>∃kn out,v=((i:Int),kn,out)/\i<=r.1.length/\out.length=p.defs.length/\∀s,(gH Gb.fi s w2).getD false=true->gH Gb.fi s kn=gH Gb.fi s w1)
   (λ o=>∃kn out,o=(kn,out)/\out.length=p.defs.length/\∀s,(gH Gb.fi s w2).getD false=true->gH Gb.fi s kn=gH Gb.fi s w1) r.1.length (λ k v ⟨_,_,_,h,_⟩=>h) (by
   rintro i v ⟨kn,out,rfl,hi,hol,hK⟩;by_cases hlt:i<r.1.length;left;have hk:=hrr r.1[i] (getElem_mem hlt);obtain⟨k,hk2⟩:=Int.eq_ofNat_of_zero_le hk.1;have hkd:k<p.defs.length:=(by omega);have hko:k<out.length:=(by omega);have hbw:=hp.defs.body (getElem_mem hkd);obtain⟨b,hb1,hb2⟩:=TA (n:=n) (by omega) hn2 hbw;simp only[gP,show decide ((i:Int)<r.1.length)=true from by simp;omega,aj,aZ hlt,bK hlt,ai,hk2,aQ hkd,hb1,Int.toNat_natCast,aZ hkd,bK hko,bf i,show(((0:Nat):Int)+k).toNat=k by omega];have step2:∀(PR:List (ByteArray×Int)) out',out'.length=p.defs.length->(∀ s,(gH Gb.fi s w2).getD false=true->gH Gb.fi s PR=gH Gb.fi s w1)->∃Jx,((bif (!((gH Gb.fi p.defs[k].name w2).getD false))then(bj out' ((0:Nat)+k:Int)).bind λx5=>some ((Gr Gb.fi p.defs[k].name x5 PR),out')else some (PR,out')):Option ((List (ByteArray×Int))×(List Int)))=some (Jx,out')/\∀s,(gH Gb.fi s w2).getD false=true->gH Gb.fi s Jx=gH Gb.fi s w1:=by
    intro PR out' ho hK;cases hc:(gH Gb.fi p.defs[k].name w2).getD false with
    |false=>
     simp only[Bool.not_false,aj,bK (show k<out'.length by omega),ai];exact⟨_,rfl,λs hs=>by rw[af5 _ _ _ (λ e=>by rw[e,hc]at hs;cases hs)];exact hK s hs⟩
    |true=>exact⟨_,rfl,hK⟩
   cases b with
   |true=>
    obtain⟨v,hv⟩:=Yv (n:=n) (a0:=p.defs) (a2:=p.zones) (a3:=p.rules) (a4:=p.caps) (a5:=p.views) (a6:=p.wA) (a7:=p.hours) (by omega) hp.tabs hz n _ kn (hb2 rfl) hbw;simp only[fV,hv,aj,ai];obtain⟨kn2,h2,h3⟩:=step2 kn (out.set k v) (by simp[hol]) hK;rw[h2];exact⟨_,rfl,_,_,rfl,hlt,by simp[hol],h3⟩
   |false=>
    simp only[au,ai];have⟨kn2,h2,h3⟩:=step2 kn out hol hK;rw[h2];exact⟨_,rfl,_,_,rfl,hlt,hol,h3⟩
   right;simp only[gP,show decide ((i:Int)<r.1.length)=false from by simp;omega,au];exact⟨_,rfl,_,_,rfl,hol,hK⟩) n 0 (0,w1,List.replicate p.defs.length 0) ⟨_,_,rfl,Nat.zero_le _,by simp,λ_ _=>rfl⟩ (by omega)
  simp only[au,Int.toNat_natCast,h1,ai,h2,aH,aj];exact⟨_,_,rfl,h2,λw hw=>by cases hw;exact h3⟩
end Go.Proofs
