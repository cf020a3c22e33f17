import Derived.Test.YtnclkjejgffdmacGreatTD1
open Go.IntKind (i64)
open List (length_take mem_map all_eq_true getElem_mem length_map mem_iff_getElem length_drop length_nil foldl_cons take_of_length_le any_eq_true pairwise_cons length_filter_le map_append pairwise_append getElem_drop)
namespace Go.Proofs
open Go.Gb Go.RowKit
variable {n:Nat}
theorem kX(a b:Int):cmp_Compare_int a b=some (if a<b then -1 else if b<a then 1 else 0):=by by_cases h1:a<b;simp[cmp_Compare_int,cmp_isNaN_int,h1];by_cases h2:b<a;simp[cmp_Compare_int,cmp_isNaN_int,h1,h2];simp[cmp_Compare_int,cmp_isNaN_int,h1,h2]
theorem kY{l:Y Int}(hl:l.length<1099511627776)(_:l.length<n):l8 n l=some (kG px l):=by show P1 l=_;unfold P1;rw[Nat.ble_eq_true_of_le (show l.length<=1099511627775 by omega),aj]
theorem ni{l:Y Int}(hl:l.length<1099511627776)(hn:l.length<n):kP n l=some ((),iU l):=by rw[<- afM];exact aav (eq:=λx y=>x==y) (ne:=λx y=>x !=y) (λ x y=>by simp[bne]) hl hn
theorem Ux{l:Y Int}{a:Int}(hl:l.length<1099511627776)(hn:l.length<n):Fy n l a=some (yP (λ x=>a==x) l):=Jd hl hn
theorem zY{l:Y Int}{a:Int}(hl:l.length<1099511627776)(hn:l.length<n):pI n l a=some (l.any λx=>a==x):=by unfold pI;rw[Ux hl hn,ai,sS]
theorem vZ{l:Y bQ}{Z:(bQ×Unit)->J Bool}(p:bQ->Bool)(h:∀x∈l,Z (x,())=some (p x))(hl:l.length<1099511627776)(hn:l.length<n):oK n l Z=some (yP p l):=fU p h hl hn
theorem wh{l:Y bg}{Z:(bg×Unit)->J Bool}(p:bg->Bool)(h:∀x∈l,Z (x,())=some (p x))(hl:l.length<1099511627776)(hn:l.length<n):jd n l Z=some (yP p l):=fU p h hl hn
theorem D9{l:Y ax}(h:l.length<1099511627776):Cj l=some l:=qH (b:=32) (by omega) (by simp[maxLen];omega)
theorem Pg{l:Y (List ax)}(hf:l.flatten.length<1099511627776)(hl:l.length<1099511627776)(hn:l.length<n):zP n l=some l.flatten:=OA (ax.mk 0 0 0 0) (b:=32) hf (by omega) hl hn
theorem Ea{a b:Y ax}(hl:a.length<1099511627776)(hn:a.length<n):p8 n a b=some (decide (a=b)):=by
 have e:p8 n a b=OC n (λ x1 x2:ax=>!((x1.x0==x2.x0)&&((x1.y0==x2.y0)&&((x1.x1==x2.x1)&&((x1.y1==x2.y1)&&true))))) a b:=by kernel_rfl
 rw[e];refine Je (λ x y=>?_) hl hn;obtain⟨a,b,c,d⟩:=x;obtain⟨e,f,g,h⟩:=y;simp;rw[eZ];simp
theorem Eb{a b:Y aR}(hl:a.length<1099511627776)(hn:a.length<n):xk n a b=some (decide (a=b)):=by
 have e:xk n a b=OC n (λ x1 x2:aR=>!((x1.from_==x2.from_)&&((x1.to==x2.to)&&true))) a b:=by kernel_rfl
 rw[e];refine Je (λ x y=>?_) hl hn;obtain⟨a,b⟩:=x;obtain⟨c,d⟩:=y;simp;rw[eZ];simp
abbrev vm(a b:aR):Bool:=decide (a.from_<b.from_)
theorem Ph:Go.Sort.SWO vm where
 irrefl x:=by simp[vm]
 trans x y z h1 h2:=by simp only[vm,bf]at *;omega
 ntrans x y z h1 h2:=by simp only[vm,fw]at *;omega
theorem KZ{l:Y aR}{Z:(aR×aR×Unit)->J Int}(f:aR->aR->Int)(hφ:∀x y,Z (x,y,())=some (f x y))(hf:∀x y,decide (f x y<0)=vm x y)(hl:l.length<1099511627776)(_:l.length<n):wL n l Z=some (iP vm l):=
 afZ f hφ hf Ph hl
theorem adM{V O:Type}{step:V->J (V⊕O)}(Inv:V->Prop)(Post:O->Prop)(μ:V->Nat)
 (h:∀v,Inv v->(∃ v',step v=some (.inl v')/\Inv v'/\μ v'< μ v)\/∃o,step v=some (.inr o)/\Post o):∀(n:Nat)(v:V),Inv v->μ v<n->∃o,iter step n v=some o/\Post o
 | 0,_,_,hn=>absurd hn (Nat.not_lt_zero _)
 |n+1,v,hi,hn=>by rcases h v hi with ⟨v',h1,h2,h3⟩|⟨o,h1,h2⟩;rw[jP h1];exact adM Inv Post μ h n v' h2 (by omega);exact⟨o,fP h1,h2⟩
theorem yh:∀(N:Nat)(l:Y Nat),l.Nodup->(∀ y∈l,y<N)->l.length<=N
 | 0,[],_,_=>aB _
 | 0,x::l,_,h=>absurd (h x (by simp)) (by omega)
 |N+1,l,hn,h=>by
  have h1:=yh N (l.filter λy=>decide (y≠N)) (hn.filter _) (λ y hy=>by rw[List.mem_filter]at hy;have:=h y hy.1;have:=hy.2;simp at this;omega);have h2:=List.length_eq_countP_add_countP (λ y=>decide (y≠N)) (l:=l);rw[List.countP_eq_length_filter]at h2;have h3:List.countP (λ a=>decide ¬(decide (a≠N)=true)) l=l.count N:=by rw[List.count];refine List.countP_congr λy _=>?_;simp
  have h4:=List.nodup_iff_count.1 hn N;omega
def zt(us:Y (List Int))(N:Nat):Prop:=us.length=N/\N<=4000000/\∀l∈us,l.length<=4000000/\∀k∈l,0<=k/\k<N
structure BI(us:List (List Int))(N to h:Nat)(d:List Int)(F:List Nat):Prop where
 dl:d.length=N
 nd:F.Nodup
 rg:∀x∈F,x<N
 mem:∀i:Nat,i<N->(0<=d.getD i 0↔i∈F)
 ub:∀j x:Nat,F[j]? =some x->d.getD x 0<=(j:Int)
 pre:∀j x:Nat,F[j]? =some x->0<j->∃p y:Nat,p<j/\F[p]? =some y/\(y:Int)∈us.getD x []/\d.getD y 0=d.getD x 0-1
 hd:F[0]? =some to/\d.getD to 0=0
 hh:h<=F.length
 cl:∀p y:Nat,p<h->F[p]? =some y->∀i:Nat,i<N->(y:Int)∈us.getD i []->0<=d.getD i 0
theorem BI.len{us:Y (List Int)}{N to h:Nat}{d:Y Int}{F:Y Nat}(b:BI us N to h d F):F.length<=N:=by exact yh N F b.nd b.rg
theorem BI.push{us:Y (List Int)}{N to h:Nat}{d:Y Int}{F:Y Nat}(b:BI us N to h d F){i x p:Nat}(hi:i<N)(hd:d.getD i 0<0)(hp:F[p]? =some x)(hx:(x:Int)∈us.getD i []):
 BI us N to h (d.set i (d.getD x 0+1)) (F++[i]):=by
 have hiF:i∉F:=λhm=>by have:=(b.mem i hi).2 hm;omega
 have ZS:x∈F:=bT hp;have hne:∀y,y∈F->i≠y:=λy hy e=>hiF (e ▸ hy);have hset:∀y,y∈F->(d.set i (d.getD x 0+1)).getD y 0=d.getD y 0:=λy hy=>by simp[List.getElem?_set_ne (hne y hy)]
 have xF:(d.set i (d.getD x 0+1)).getD i 0=d.getD x 0+1:=by
  have:i<d.length:=by rw[b.dl];exact hi
  simp[this]
 have hx0:0<=d.getD x 0:=(b.mem x (b.rg x ZS)).2 ZS;have hlt:p<F.length:=(bU.1 hp).1;refine⟨by simpa using b.dl,?_,?_,?_,?_,?_,?_,?_,?_⟩;rw[List.nodup_append];exact⟨b.nd,by simp,λa ha c hc=>by simp at hc;subst hc;exact λe=>hiF (e ▸ ha)⟩;intro y hy;rw[bI]at hy;rcases hy with hy|hy;exact b.rg y hy;simp at hy;omega;intro j hj;by_cases e:i=j;subst e;rw[xF];exact⟨λ _=>by simp,λ_=>by omega⟩;simp only[List.getD,List.getElem?_set_ne e];rw[bI];have:=b.mem j hj;simp at this;rw[this];simp[Ne.symm e];intro j y hy;rw[List.getElem?_append]at hy;split at hy;rw[hset y (bT hy)];exact b.ub j y hy;rename_i hj;have:y=i/\j=F.length:=by
  cases h:j-F.length with
  |zero=>rw[h]at hy;simp at hy;exact⟨hy.symm,by omega⟩
  |succ z=>rw[h]at hy;simp at hy
 obtain⟨rfl,rfl⟩:=this;rw[xF];have:=b.ub p x hp;omega;intro j y hy hj;rw[List.getElem?_append]at hy;split at hy;have⟨p',y',h1,h2,h3,h4⟩:=b.pre j y hy hj;exact⟨p',y',h1,by rw[List.getElem?_append_left (by have:=(bU.1 h2).1;exact this)];exact h2,h3,by rw[hset y' (bT h2),hset y (bT hy)];exact h4⟩;rename_i hj';have:y=i/\j=F.length:=by
  cases h:j-F.length with
  |zero=>rw[h]at hy;simp at hy;exact⟨hy.symm,by omega⟩
  |succ z=>rw[h]at hy;simp at hy
 obtain⟨rfl,rfl⟩:=this;exact⟨p,x,hlt,by rw[List.getElem?_append_left hlt];exact hp,hx,by rw[xF,hset x ZS];omega⟩;have h0:=(bU.1 b.hd.1).1;exact⟨by rw[List.getElem?_append_left h0];exact b.hd.1,by rw[hset _ (bT b.hd.1)];exact b.hd.2⟩;have:=b.hh;simp;omega;intro p' y hp' hy j hj hm;rw[List.getElem?_append_left (by have:=b.hh;omega)]at hy;have:=b.cl p' y hp' hy j hj hm;rw[hset j ((b.mem j hj).1 this)];exact this
theorem qS{α:Type}(o:Nat)(l:Y α):Xi o l=l.drop o:=by cases o<;>simp[Xi]
def BS(us:Y (List Int))(N to h x:Nat):(Int×Int×List Int×List Int)->Prop
 |(v4,v5,d,v7)=>∃(o i:Nat)(F:Y Nat),v4=o/\v5=i/\o<=v7.length/\v7.drop o=(F.drop (h+1)).map (λ k:Nat=>(k:Int))/\i<=N/\BI us N to h d F/\F[h]? =some x/\∀i',i'<i->(x:Int)∈us.getD i' []->0<=d.getD i' 0
theorem apB{n N to h x:Nat}{a0:qI}{r1:Y Int}(hg:zt a0.uses N)(hr:r1.length=N)(hn:4000001<=n)(v:Int×Int×List Int×List Int)(hv:BS a0.uses N to h x v):
 (∃ v',gq n a0 r1 x v=some (.inl v')/\BS a0.uses N to h x v'/\N-v'.2.1.toNat<N-v.2.1.toNat)\/
 ∃q,gq n a0 r1 x v=some (.inr q)/\∃(o:Nat)(F:Y Nat),q.1=(o:Int)/\o<=q.2.2.length/\q.2.2.drop o=(F.drop (h+1)).map (λ k:Nat=>(k:Int))/\BI a0.uses N to (h+1) q.2.1 F:=by
 obtain⟨v4,v5,d,v7⟩:=v;obtain⟨o,i,F,rfl,rfl,ho,hq,hi,hb,hx,hc⟩:=hv;have hx':x<N:=hb.rg x (bT hx);have B3:=hg.1;have hdl:=hb.dl;by_cases hlt:i<N;left;have yp:i<a0.uses.length:=by omega
 have hl:=hg.2.2 a0.uses[i] (getElem_mem yp);have hcon:=zY (n:=n) (l:=a0.uses[i]) (a:=(x:Int)) (by omega) (by omega);have hud:a0.uses.getD i []=a0.uses[i]:=by simp[yp]
 have hdi:d[i]'(by omega)=d.getD i 0:=by simp[show i<d.length by omega]
 have HR:d[x]'(by omega)=d.getD x 0:=by simp[show x<d.length by omega]
 simp only[gq,show decide ((i:Int)<((a0.uses.length:Int)))=true from by simp;omega,aj,aO yp,ai,aV (show i<r1.length by omega),aV (show x<r1.length by omega),
  bJ (show i<d.length by omega),bJ (show x<d.length by omega),hcon,hdi,HR]
 have hFl:=hb.len;have hN:=hg.2.1;have hlen:v7.length-o=F.length-(h+1):=by have:=congrArg List.length hq;simpa using this
 have hmx:maxLen=9223372036854775807:=rfl;by_cases hA:d.getD i 0<0/\(x:Int)∈a0.uses[i];have h1:(a0.uses[i].any λy=>(x:Int)==y)=true:=any_eq_true.2 ⟨_,hA.2,by simp⟩;have hx0:0<=d.getD x 0:=(hb.mem x hx').2 (bT hx);have hxu:=hb.ub h x hx;have hFh:h<F.length:=(bU.1 hx).1;have hap:bF (v7.drop o).length (v7.length-o) (sub [(i:Int)] 0 1).length 1 8=true:=by simp[bF,sub];omega
 have hw:i64.wrap (d.getD x 0+1)=d.getD x 0+1:=bP (by omega) (by omega);refine⟨(((0:Nat):Int),((i+1:Nat):Int),d.set i (d.getD x 0+1),v7.drop o++[(i:Int)]),?_,?_,by show N-((i+1:Nat):Int).toNat<N-(i:Int).toNat;omega⟩;simp only[hA.1,decide_true,aj,ai,h1,Int.toNat_natCast,qS,hap,dV,hw,aZ i];simp[sub];refine⟨0,i+1,F++[i],rfl,rfl,Nat.zero_le _,?_,by omega,hb.push hlt hA.1 hx (by rw[hud];exact hA.2),by rw[List.getElem?_append_left hFh];exact hx,?_⟩;rw[List.drop_zero,hq,List.drop_append_of_le_length (by omega)];simp;intro i' hi' hm;have hpush:=hb.push hlt hA.1 hx (by rw[hud];exact hA.2);by_cases e:i'=i;subst e;exact(hpush.mem i' hlt).2 (by simp);have:=hc i' (by omega) hm;exact(hpush.mem i' (by omega)).2 (List.mem_append_left _ ((hb.mem i' (by omega)).1 this));have hB:(bif decide (d.getD i 0<0)then some (a0.uses[i].any λy=>(x:Int)==y)else some false)=some false:=by
  by_cases h2:d.getD i 0<0;simp only[h2,decide_true,aj,bK];cases hc:(a0.uses[i].any λy=>x==y)with
  |false=>rfl
  |true=>
   obtain⟨y,hy,e⟩:=any_eq_true.1 hc;obtain rfl:x=y:=(by simpa using e);exact absurd ⟨h2,hy⟩ hA
  simp only[h2,decide_false,au]
 refine⟨(o,(i+1:Nat),d,v7),?_,?_,by show N-((i+1:Nat):Int).toNat<N-(i:Int).toNat;omega⟩;rw[hB];simp[Q8 (show o+(v7.length-o)=v7.length by omega),aZ i];refine⟨o,i+1,F,rfl,rfl,ho,hq,by omega,hb,hx,λi' hi' hm=>?_⟩;by_cases e:i'=i;subst e;rw[hud]at hm;exact Int.not_lt.1 λh2=>hA ⟨h2,hm⟩;exact hc i' (by omega) hm;right;have hiN:i=N:=by omega
 have hFh:h<F.length:=(bU.1 hx).1;refine⟨(o,d,v7),?_,o,F,rfl,ho,hq,?_⟩;simp only[gq,show decide ((i:Int)<(a0.uses.length))=false from by simp;omega,au,Int.toNat_natCast,Q8 (show o+(v7.length-o)=v7.length by omega),aj];refine⟨hb.dl,hb.nd,hb.rg,hb.mem,hb.ub,hb.pre,hb.hd,hFh,λp y hp hy j hj hm=>?_⟩;by_cases e:p=h;subst e;rw[hx]at hy;cases hy;exact hc j (by omega) hm;exact hb.cl p y (by omega) hy j hj hm
def BO(us:Y (List Int))(N to h:Nat):(Int×List Int×List Int)->Prop
 |(v1,d,v3)=>∃(o:Nat)(F:Y Nat),v1=o/\o<=v3.length/\v3.drop o=(F.drop h).map (λ k:Nat=>(k:Int))/\BI us N to h d F
theorem apC{n N to h:Nat}{a0:qI}{r1:Y Int}(hg:zt a0.uses N)(hr:r1.length=N)(hn:4000001<=n)(v:Int×List Int×List Int)(hv:BO a0.uses N to h v):
 (∃ v',dX n a0 r1 v=some (.inl v')/\BO a0.uses N to (h+1) v')\/∃d,dX n a0 r1 v=some (.inr d)/\∃F,BI a0.uses N to F.length d F:=by
 obtain⟨v1,d,v3⟩:=v;obtain⟨o,F,rfl,ho,hq,hb⟩:=hv;have hlen:v3.length-o=F.length-h:=by have:=congrArg List.length hq;simpa using this
 by_cases hlt:h<F.length;left;obtain⟨x,hx⟩:∃x,F[h]? =some x:=⟨_,dI hlt⟩;have hox:v3[o]? =some x:=by have:=congrArg (λ l=>l[0]?) hq;simpa[hx]using this
 have hdr:v3.drop (o+1)=(F.drop (h+1)).map (λ k:Nat=>(k:Int)):=by have:=congrArg (λ l=>l.drop 1) hq;simpa using this
 obtain⟨q,hq1,o2,F2,hq2,hq3,hq4,hq5⟩:=adM (BS a0.uses N to h x) (λ q:Int×List Int×List Int=>∃(o:Nat)(F:Y Nat),q.1=o/\o<=q.2.2.length/\q.2.2.drop o=(F.drop (h+1)).map (λ k:Nat=>(k:Int))/\BI a0.uses N to (h+1) q.2.1 F)
  (λ v=>N-v.2.1.toNat) (apB (r1:=r1) hg hr hn) n ((o+1:Nat),0,d,v3) ⟨o+1,0,F,rfl,rfl,by omega,hdr,Nat.zero_le _,hb,hx,λi' hi'=>absurd hi' (Nat.not_lt_zero _)⟩ (by have:=hg.2.1;simp;omega)
 obtain⟨w1,w2,w3⟩:=q;simp only at hq2 hq3 hq4 hq5;subst hq2;refine⟨(o2,w2,w3),?_,o2,F2,rfl,hq3,hq4,hq5⟩;have hat:bx v3 (o+0)=some (x:Int):=by rw[Int.add_zero,Fh];exact hox
 simp only[dX,Int.toNat_natCast,show decide (((v3.length-o:Nat):Int)>0)=true from by simp;omega,aj,show cV 0 (v3.length-o)=true from by simp[cV];omega,hat,ai,
  zo (show 0<=1 by omega) (show (1:Int)<=(v3.length-o:Nat)by omega) (Int.le_refl _),Q8 (show o+1+(v3.length-o-1)=v3.length by omega),hq1,Q8 (show o2+(w3.length-o2)=w3.length by omega)]
 right;have hhF:h=F.length:=by have:=hb.hh;omega
 refine⟨d,?_,F,hhF ▸ hb⟩;simp only[dX,Int.toNat_natCast,show decide (((v3.length-o:Nat):Int)>0)=false from by simp;omega,au]
theorem fE{V O:Type}{step:V->J (V⊕O)}(Inv:Nat->V->Prop)(Post:O->Prop)(K:Nat)(hK:∀k v,Inv k v->k<=K)
 (h:∀k v,Inv k v->(∃ v',step v=some (.inl v')/\Inv (k+1) v')\/∃o,step v=some (.inr o)/\Post o):∀(n k:Nat)(v:V),Inv k v->K<n+k->∃o,iter step n v=some o/\Post o
 | 0,k,v,hi,hn=>absurd (hK k v hi) (by omega)
 |n+1,k,v,hi,hn=>by rcases h k v hi with ⟨v',h1,h2⟩|⟨o,h1,h2⟩;rw[jP h1];exact fE Inv Post K hK h n (k+1) v' h2 (by omega);exact⟨o,fP h1,h2⟩
theorem adN{n N to:Nat}{a0:qI}(hg:zt a0.uses N)(hd:a0.defs.length=N)(hn:4000002<=n)(ht:to<N):∃d F,j6 n a0 to=some d/\BI a0.uses N to F.length d F:=by
 have hN:=hg.2.1;have hr:sJ (sub ([(-1)]:Y Int) 0 1) N=some (List.replicate N (-1)):=by show(ck (decide (0<=(N:Int))&&decide ((N:Int)<=1000000000000)) (some (List.replicate (N:Int).toNat (-1))))=_;rw[show decide (0<=(N:Int))=true by simp,show decide ((N:Int)<=1000000000000)=true by simp;omega];rfl
 have hlr:(List.replicate N (-1:Int)).length=N:=List.length_replicate;have hb0:BI a0.uses N to 0 ((List.replicate N (-1:Int)).set to 0) [to]:=by
  have hto:((List.replicate N (-1:Int)).set to 0).getD to 0=0:=by simp[ht]
  refine⟨by simp,by simp,λx hx=>by simp at hx;omega,λi hi=>?_,λj x hx=>?_,λj x hx hj=>?_,⟨rfl,hto⟩,by simp,λp y hp=>absurd hp (Nat.not_lt_zero _)⟩;by_cases e:to=i;subst e;rw[hto];simp;simp[List.getElem?_set_ne e];simp[hi,Ne.symm e];cases j with
  |zero=>simp at hx;subst hx;rw[hto];simp
  |succ j=>simp at hx
  cases j with
  |zero=>omega
  |succ j=>simp at hx
 obtain⟨d,h1,F,h2⟩:=fE (step:=dX n a0 (List.replicate N (-1))) (λ h v=>BO a0.uses N to h v) (λ d=>∃F,BI a0.uses N to F.length d F) N (λ h v ⟨_,_,_,_,_,hb⟩=>Nat.le_trans hb.hh hb.len) (λ h v hv=>apC (n:=n) (r1:=List.replicate N (-1)) hg hlr (by omega) v hv) n 0
  ((0:Nat),(List.replicate N (-1:Int)).set to 0,[to]) ⟨0,[to],rfl,Nat.zero_le _,rfl,hb0⟩ (by omega)
 refine⟨d,F,?_,h2⟩;have hdl:d.length=N:=h2.dl;have h1':iter (dX n a0 (List.replicate N (-1))) n (0,(List.replicate N (-1:Int)).set to 0,[to])=some d:=h1;simp only[j6,hd,hr,ai,hlr,aV ht,bJ (show to<(List.replicate N (-1:Int)).length by omega),aj,show(((0:Nat):Int)+to).toNat=to by omega,h1];simp[sub,hdl];exact take_of_length_le (Nat.le_of_eq hdl)
def Nr(d l:Y Int)(w:Int):Prop:=
 (w=-1/\∀k∈l,d.getD k.toNat 0<0)\/(w∈l/\0<=d.getD w.toNat 0/\∀k∈l,0<=d.getD k.toNat 0->d.getD w.toNat 0<=d.getD k.toNat 0)
theorem Nr.snoc{d l:Y Int}{w k:Int}(h:Nr d l w)(hk:0<=k)(hl:∀x∈l,0<=x):Nr d (l++[k]) (if 0<=d.getD k.toNat 0/\(w<0\/d.getD k.toNat 0<d.getD w.toNat 0)then k else w):=by split;rename_i h1;refine .inr ⟨by simp,h1.1,λz hz h0=>?_⟩;rw[bI]at hz;rcases hz with hz|hz;rcases h with ⟨rfl,h⟩|⟨hw,hw0,h⟩;have:=h z hz;omega;have h2:=h z hz h0;have:=hl w hw;rcases h1.2 with h3|h3<;>omega;simp at hz;subst hz;exact Int.le_refl _;rename_i h1;rcases h with ⟨rfl,h⟩|⟨hw,hw0,h⟩;refine .inl ⟨rfl,λz hz=>?_⟩;rw[bI]at hz;rcases hz with hz|hz;exact h z hz;simp at hz;subst hz;exact Int.not_le.1 λh2=>h1 ⟨h2,.inl (by omega)⟩;refine .inr ⟨List.mem_append_left _ hw,hw0,λz hz h0=>?_⟩;rw[bI]at hz;rcases hz with hz|hz;exact h z hz h0;simp at hz;subst hz;exact Int.not_lt.1 λh2=>h1 ⟨h0,.inr h2⟩
theorem apD{n N:Nat}{d l:Y Int}(hd:d.length=N)(hl:l.length<=4000000)(hr:∀k∈l,0<=k/\k<N)(hn:4000001<=n):∃w,iter (iT d l) n (-1,0)=some w/\Nr d l w:=by
 refine fE (λ i (v:Int×Int)=>i<=l.length/\v.2=i/\Nr d (l.take i) v.1) (λ w=>Nr d l w) l.length (λ k v h=>h.1) ?_ n 0 _ ⟨Nat.zero_le _,rfl,.inl ⟨rfl,by simp⟩⟩ (by omega);rintro i ⟨v3,v4⟩ ⟨hi,rfl,hN⟩;by_cases hlt:i<l.length;left;have hk:=hr l[i] (getElem_mem hlt);obtain⟨k,hk2⟩:=Int.eq_ofNat_of_zero_le hk.1;have hkN:k<d.length:=by omega
 have L4:d[k]=d.getD k 0:=by simp[hkN]
 have htk:l.take (i+1)=l.take i++[l[i]]:=by rw[List.take_add_one,dI hlt];rfl
 have hlk:∀x∈l.take i,0<=x:=λx hx=>(hr x (List.mem_of_mem_take hx)).1;have hsn:=hN.snoc hk.1 hlk;refine⟨(if 0<=d.getD (l[i]).toNat 0/\(v3<0\/d.getD (l[i]).toNat 0<d.getD v3.toNat 0)then l[i]else v3,(i+1:Nat)),?_,hlt,rfl,by rw[htk];exact hsn⟩;simp only[iT,show decide ((i:Int)<l.length)=true from by simp;omega,aj,aO hlt,ai,hk2,aV hkN,bJ hkN,L4,Int.toNat_natCast,aZ i];by_cases h0:0<=d.getD k 0;by_cases h1:v3<0;simp only[h0,h1,decide_true,aj,ai,true_and,true_or,if_true];have hv:v3∈l.take i:=by rcases hN with ⟨rfl,_⟩|⟨h,_⟩;omega;exact h
 have D1:=hr v3 (List.mem_of_mem_take hv);obtain⟨z,hz⟩:=Int.eq_ofNat_of_zero_le D1.1;subst hz;have HP:z<d.length:=by omega
 have hgz:d[z]=d.getD z 0:=by simp[HP]
 simp only[h0,decide_true,aj,h1,decide_false,au,aV HP,bJ HP,ai,hgz,Int.toNat_natCast,true_and,false_or];by_cases h2:d.getD k 0<d.getD z 0;simp only[h2,decide_true,aj,if_true,ai];simp only[h2,decide_false,au,if_false,ai];simp only[h0,decide_false,au,ai,false_and,if_false];right;refine⟨v3,?_,?_⟩;simp only[iT,show decide ((i:Int)<l.length)=false from by simp;omega,au];rw[take_of_length_le (by omega)]at hN;exact hN
theorem BI.step{us:Y (List Int)}{N to h:Nat}{d:Y Int}{F:Y Nat}(b:BI us N to h d F){x:Nat}(hx:x<N)(hne:x≠to)(h0:0<=d.getD x 0):∃y:Nat,(y:Int)∈us.getD x []/\d.getD y 0=d.getD x 0-1/\0<=d.getD y 0:=by
 obtain⟨j,hj,hjx⟩:=mem_iff_getElem.1 ((b.mem x hx).1 h0);have hj':F[j]? =some x:=by rw[dI hj,hjx]
 have hj0:0<j:=by
  cases j with
  |zero=>rw[b.hd.1]at hj';cases hj';exact absurd rfl hne
  |succ j=>exact Nat.succ_pos _
 have⟨p,y,_,h2,h3,h4⟩:=b.pre j x hj' hj0;have hyF:=bT h2;exact⟨y,h3,h4,(b.mem y (b.rg y hyF)).2 hyF⟩
theorem aly{n N fr:Nat}{a1:Y gW}{us:Y (List Int)}(hg:zt us N)(hd:a1.length=N)(hn:4000003<=n)(hf:fr<N):∃d F c,BI us N fr F.length d F/\ko n fr a1 us=some (a1,us,c)/\c.length<=N+1/\(c=[]->∀k∈us.getD fr [],d.getD k.toNat 0<0):=by
 obtain⟨d,F,hdi,hb⟩:=adN (n:=n) (a0:=qI.mk a1 us) hg hd (by omega) hf;have hN:=hg.2.1;have B3:=hg.1;have hmx:maxLen=9223372036854775807:=rfl;have hloop:∃o,iter (lJ n fr a1 us d) n (fr,[])=some o/\∃c,o=.inr (a1,us,c)/\c.length<=N+1/\(c=[]->∀k∈us.getD fr [],d.getD k.toNat 0<0):=by
  refine fE (λ k (v:Int×List ByteArray)=>∃at_:Nat,v.1=at_/\at_<N/\v.2.length=k/\k<=N/\((k=0/\at_=fr)\/(0<k/\at_≠fr/\0<=d.getD at_ 0/\d.getD at_ 0+k<=N))) _ N (λ k v ⟨_,_,_,_,h,_⟩=>h) ?_ n 0 _ ⟨fr,rfl,hf,rfl,Nat.zero_le _,.inl ⟨rfl,rfl⟩⟩ (by omega);rintro k ⟨v1,v2⟩ ⟨x,rfl,hx,hv2,hkN,hst⟩;simp at hv2;have hxa:x<a1.length:=by omega
  have hxu:x<us.length:=by omega
  have hl:=hg.2.2 us[x] (getElem_mem hxu);obtain⟨w,hw,hnr⟩:=apD (n:=n) (d:=d) (l:=us[x]) hb.dl hl.1 hl.2 (by omega);have hgu:us.getD x []=us[x]:=by simp[hxu]
  have hap:bF v2.length v2.length (sub [a1[x].name] 0 1).length 1 16=true:=by simp[bF,sub];omega
  simp only[lJ,aO hxa,aO hxu,ai,hap,aj,dV,hw];have hsl:(v2++sub [a1[x].name] 0 1).length=k+1:=by simp[sub,hv2]
  have hne:((v2++sub [a1[x].name] 0 1).length==0)=false:=by rw[hsl];simp
  rcases hnr with ⟨rfl,hno⟩|⟨hwm,hw0,hmin⟩;right;refine⟨.inr (a1,us,[]),by simp,[],rfl,by simp,λ_=>?_⟩;rcases hst with ⟨_,rfl⟩|⟨_,ZD,hx0,_⟩;rw[hgu];exact hno;have⟨y,hy,_,hy0⟩:=hb.step hx ZD hx0;have hy':(y:Int)∈us[x]:=by rw[<- hgu];exact hy
  have:=hno _ hy';simp only[Int.toNat_natCast]at this;omega;have hwr:=hl.2 w hwm;obtain⟨z,rfl⟩:=Int.eq_ofNat_of_zero_le hwr.1;simp only[Int.toNat_natCast]at hw0 hmin;by_cases hzf:z=fr;right;subst hzf;refine⟨.inr (a1,us,v2++sub [a1[x].name] 0 1),?_,_,rfl,by omega,λh=>by rw[h]at hsl;simp at hsl⟩;simp only[show decide ((z:Int)<0)=false from by simp,au,beq_self_eq_true,aj,hne,Bool.not_false,Bool.true_and,aH,Option.map_some];left;have HP:z<N:=by omega
  have hb1:d.getD z 0+(k+1:Nat)<=N:=by rcases hst with ⟨hk0,rfl⟩|⟨_,ZD,hx0,hle⟩;have hzF:=(hb.mem z HP).1 hw0;obtain⟨j,hj,hjz⟩:=mem_iff_getElem.1 hzF;have h3:=hb.ub j z (by rw[dI hj,hjz]);have:=hb.len;omega;have⟨y,hy,hyd,hy0⟩:=hb.step hx ZD hx0;have:=hmin y (by rw[<- hgu];exact hy) (by simpa using hy0);simp only[Int.toNat_natCast]at this;omega
  refine⟨(z,v2++sub [a1[x].name] 0 1),?_,z,rfl,HP,hsl,by omega,.inr ⟨Nat.succ_pos _,hzf,hw0,hb1⟩⟩;simp[show decide ((z:Int)<0)=false from by simp,show((z:Int)==fr)=false from by simp;omega]
 obtain⟨o,h1,c,rfl,h2⟩:=hloop;refine⟨d,F,c,hb,?_,h2⟩;simp only[ko,hdi,ai,h1];simp
theorem adO(a b:ByteArray):∃r,oP a b=some r:=by simp[oP,cmp_isNaN_string];cases (!a.toList==a.toList)<;>cases (!b.toList==b.toList)<;>cases Xe a b<;>cases (a.toList==b.toList)<;>exact⟨_,rfl⟩
theorem adP{a b:Y ByteArray}(ha:a.length<=5000000)(hn:5000001<=n):∃r,mO n a b=some r:=by
 obtain⟨o,h,_⟩:=fE (step:=mM a b) (λ i v=>v=i/\i<=a.length) (λ _=>True) a.length (λ k v h=>h.2) (by
  rintro i v ⟨rfl,hi⟩;by_cases hlt:i<a.length;simp only[mM,show decide ((i:Int)<a.length)=true from by simp;omega,aj,aO hlt,ai];by_cases hb:i<b.length;have⟨r,hr⟩:=adO a[i] b[i];simp only[show decide ((i:Int)>=b.length)=false from by simp;omega,au,aO hb,ai,hr];cases hr0:(r !=0)with
  |true=>exact .inr ⟨_,rfl,trivial⟩
  |false=>exact .inl ⟨_,rfl,by rw[aL (by omega)],by omega⟩
  simp only[show decide ((i:Int)>=b.length)=true from by simp;omega,aj];exact .inr ⟨_,rfl,trivial⟩;simp only[mM,show decide ((i:Int)<a.length)=false from by simp;omega,au];exact .inr ⟨_,rfl,trivial⟩) n 0 0 ⟨rfl,Nat.zero_le _⟩ (by omega)
 simp only[mO,h];cases o with
 |inl u=>cases u;simp only[gG];cases decide ((a.length:Int)<b.length)<;>exact⟨_,rfl⟩
 |inr r=>exact⟨r,by simp⟩
def uA(us:Y (List Int))(N j:Nat):Prop:=∃d F,BI us N j F.length d F/\∀k∈us.getD j [],d.getD k.toNat 0<0
theorem af5{n N:Nat}{a0:Y gW}{us:Y (List Int)}(hg:zt us N)(hd:a0.length=N)(hn:5000003<=n):∃c,ji n a0 us=some (a0,us,c)/\(c=[]->∀j,j<N->uA us N j)/\c.length<=N+1:=by
 have hN:=hg.2.1
 obtain⟨o,h1,c,rfl,h2⟩:=fE (step:=iA n a0) (λ i (v:Int×List gW×List (List Int)×List ByteArray)=>∃c,v=((i:Int),a0,us,c)/\i<=N/\c.length<=N+1/\(c=[]->∀j,j<i->uA us N j))
  (λ o=>∃c,o=(a0,us,c)/\(c=[]->∀j,j<N->uA us N j)/\c.length<=N+1) N (λ k v ⟨_,_,h,_⟩=>h) (by
  rintro i v ⟨c,rfl,hi,hcl,hc⟩;by_cases hlt:i<N;left;obtain⟨d,F,c2,hb,hci,asP,hc2⟩:=aly (n:=n) (a1:=a0) hg hd (by omega) hlt;simp only[iA,show decide ((i:Int)<a0.length)=true from by simp;omega,aj,hci,ai,aZ i,dP,aH];have hfin:∀c':Y ByteArray,c'.length<=N+1->(c'=[]->c=[]/\c2=[])->∃c'',(((i+1:Nat):Int),a0,us,c')=(((i+1:Nat):Int),a0,us,c'')/\i+1<=N/\c''.length<=N+1/\(c''=[]->∀j,j<i+1->uA us N j):=λc' hl' he=>
   ⟨c',rfl,hlt,hl',λe j hj=>by have⟨e1,e2⟩:=he e;by_cases h:j=i;subst h;exact⟨d,F,hb,hc2 e2⟩;exact hc e1 j (by omega)⟩
  obtain⟨r,hr⟩:=adP (n:=n) (a:=c2) (b:=c) (by omega) (by omega);cases h0:(c2.length==0)with
  |true=>
   have e2:c2=[]:=List.eq_nil_of_length_eq_zero (by simpa using h0);exact⟨_,by simp,hfin c hcl λe=>⟨e,e2⟩⟩
  |false=>
   have hne:c2≠[]:=λe=>(by rw[e]at h0;simp at h0);simp only[au,ai];have key:∃b,(bif c.length==0 then some true else bif decide ((c2.length:Int)<c.length)then some true else bif(c2.length:Int)==c.length then(mO n c2 c).bind λr2=>some (decide (r2<0))else some false)=some b/\(c.length=0->b=true):=by
    cases h3:(c.length==0)with
    |true=>exact⟨true,rfl,λ_=>rfl⟩
    |false=>
     have hcn:c.length≠0:=(by simpa using h3);simp only[au,hr,ai];cases decide ((c2.length:Int)<c.length)<;>cases ((c2.length:Int)==c.length)<;>exact⟨_,rfl,λe=>absurd e hcn⟩
   obtain⟨b,hb1,hb2⟩:=key;rw[hb1];cases b with
   |true=>exact⟨_,by simp,hfin c2 asP λe=>absurd e hne⟩
   |false=>exact⟨_,by simp,hfin c hcl λe=>by rw[e]at hb2;exact absurd (hb2 rfl) (by simp)⟩
  right;refine⟨(a0,us,c),?_,c,rfl,λe j hj=>hc e j (by omega),hcl⟩;simp only[iA,show decide ((i:Int)<a0.length)=false from by simp;omega,au,aH,aj]) n 0 (0,a0,us,[]) ⟨[],rfl,Nat.zero_le _,by simp,λ_ j hj=>absurd hj (Nat.not_lt_zero _)⟩ (by omega)
 exact⟨c,by simp[ji,h1],h2⟩
theorem BI.back{us:Y (List Int)}{N to:Nat}{d:Y Int}{F:Y Nat}(b:BI us N to F.length d F){i y:Nat}(hi:i<N)(hy:y<N)(h:(y:Int)∈us.getD i [])(h0:0<=d.getD y 0):0<=d.getD i 0:=by obtain⟨j,hj,hjy⟩:=mem_iff_getElem.1 ((b.mem y hy).1 h0);exact b.cl j y hj (by rw[dI hj,hjy]) i hi h
theorem apE{us:Y (List Int)}{N:Nat}(hg:zt us N)(hf:∀j,j<N->uA us N j)(done:Ψ){i0:Nat}(h0:i0<N)(hd0:¬done i0):∃i,i<N/\¬done i/\∀k∈us.getD i [],done k.toNat:=by
 refine wu λhno=>?_;have hstep:∀i:{i:Nat // i<N/\¬done i},∃k:{k:Nat // k<N/\¬done k},(k.1:Int)∈us.getD i.1 []:=by
  rintro⟨i,hi,hnd⟩;refine wu λh=>hno ⟨i,hi,hnd,λk hk=>wu λhkd=>h ?_⟩;have hl:us.getD i []∈us:=by have:i<us.length:=(by rw[hg.1];exact hi);simp[this]
  have hr:=(hg.2.2 _ hl).2 k hk;exact⟨⟨k.toNat,by omega,hkd⟩,by show(k.toNat:Int)∈_;rw[Int.toNat_of_nonneg hr.1];exact hk⟩
 obtain⟨f,hfs⟩:=Classical.axiomOfChoice hstep
 let g:Nat->{i:Nat // i<N/\¬done i}:=λj=>Nat.rec ⟨i0,h0,hd0⟩ (λ _ x=>f x) j
 have hgs:∀j,((g (j+1)).1:Int)∈us.getD (g j).1 []:=λj=>hfs (g j);have hnd:¬((List.range (N+1)).map λj=>(g j).1).Nodup:=λh=>by
  have:=yh N _ h λy hy=>by obtain⟨j,_,rfl⟩:=mem_map.1 hy;exact(g j).2.1
  rw[length_map,List.length_range]at this;omega
 obtain⟨a,b,hab,he⟩:∃a b,a<b/\(g a).1=(g b).1:=by refine wu λh=>hnd ?_;rw[List.nodup_iff_pairwise_ne,List.pairwise_map];exact List.pairwise_lt_range.imp λ{x y} hxy e=>h ⟨x,y,hxy,e⟩
 obtain⟨d,F,hb,hneg⟩:=hf _ (g a).2.1;have hall:∀c,a<b-c->c<b-a->0<=d.getD (g (b-c)).1 0:=by
  intro c
  induction c with
  |zero=>intro _ _;rw[Nat.sub_zero,<- he,hb.hd.2];exact Int.le_refl _
  |succ c ih=>
   intro h1 h2;have:=ih (by omega) (by omega);have e:b-c=b-(c+1)+1:=(by omega);rw[e]at this;exact hb.back (g (b-(c+1))).2.1 (g (b-(c+1)+1)).2.1 (hgs (b-(c+1))) this
 have h1:=hall (b-a-1) (by omega) (by omega);have e:b-(b-a-1)=a+1:=by omega
 rw[e]at h1;have h2:=hneg _ (hgs a);simp only[Int.toNat_natCast]at h2;omega
theorem af6{n N:Nat}{l:Y Int}{done:Y Bool}(hd:done.length=N)(hl:l.length<=4000000)(hr:∀k∈l,0<=k/\k<N)(hn:4000001<=n):
 ∃r,iJ n l done=some (r,done)/\(r=false↔∀k∈l,done.getD k.toNat false=true):=by
 obtain⟨o,h1,h2⟩:=fE (step:=kg l) (λ i (v:Int×List Bool)=>v=((i:Int),done)/\i<=l.length/\∀k∈l.take i,done.getD k.toNat false=true)
  (λ o=>(o=.inl done/\∀k∈l,done.getD k.toNat false=true)\/∃i:Nat,o=.inr (i,done)/\∃k∈l,done.getD k.toNat false=false) l.length (λ k v h=>h.2.1) (by
  rintro i v ⟨rfl,hi,hall⟩;by_cases hlt:i<l.length;have hk:=hr l[i] (getElem_mem hlt);obtain⟨k,hk2⟩:=Int.eq_ofNat_of_zero_le hk.1;have hkN:k<done.length:=by omega
  have L4:done[k]=done.getD k false:=by simp[hkN]
  have htk:l.take (i+1)=l.take i++[l[i]]:=by rw[List.take_add_one,dI hlt];rfl
  simp only[kg,show decide ((i:Int)<l.length)=true from by simp;omega,aj,aO hlt,ai,aH,hk2,nJ,aV hkN,bJ hkN,L4];cases hdk:done.getD k false with
  |true=>
   refine .inl ⟨_,by simp;rfl,by rw[aL (by omega)],hlt,λz hz=>?_⟩;rw[htk,bI]at hz;rcases hz with hz|hz;exact hall z hz;simp at hz;rw[hz,hk2];simpa using hdk
  |false=>exact .inr ⟨_,by simp,.inr ⟨i,rfl,l[i],getElem_mem hlt,by rw[hk2];simpa using hdk⟩⟩
  refine .inr ⟨.inl done,?_,.inl ⟨rfl,by rw[take_of_length_le (by omega)]at hall;exact hall⟩⟩;simp only[kg,show decide ((i:Int)<l.length)=false from by simp;omega,au,aH,aj]) n 0 (0,done) ⟨rfl,Nat.zero_le _,by simp⟩ (by omega)
 rcases h2 with ⟨rfl,h2⟩|⟨i,rfl,k,hk,hkd⟩;exact⟨false,by simp[iJ,nR,h1],λ_=>h2,λ_=>rfl⟩;refine⟨true,by simp[iJ,nR,h1],λh=>(by cases h),λh=>?_⟩;rw[h k hk]at hkd;cases hkd
def P4(us:Y (List Int))(N:Nat)(done:Y Bool)(i:Nat)(w:Int):Prop:=
 (w=-1/\∀j,j<i->¬(done.getD j false=false/\∀k∈us.getD j [],done.getD k.toNat false=true))\/∃j:Nat,w=j/\j<i/\done.getD j false=false
theorem anR{n N:Nat}{a0:qI}{done:Y Bool}(hg:zt a0.uses N)(hd:a0.defs.length=N)(hl:done.length=N)(hn:4000002<=n):∃w,iter (iX n a0) n (-1,0,done)=some (w,done)/\P4 a0.uses N done N w:=by
 have hN:=hg.2.1;have B3:=hg.1;obtain⟨o,h1,w,rfl,h2⟩:=fE (step:=iX n a0) (λ i (v:Int×Int×List Bool)=>∃w,v=(w,(i:Int),done)/\i<=N/\P4 a0.uses N done i w) (λ o=>∃w,o=(w,done)/\P4 a0.uses N done N w) N (λ k v ⟨_,_,h,_⟩=>h) (by
  rintro i v ⟨w,rfl,hi,hw⟩;by_cases hlt:i<N;left;have hiu:i<a0.uses.length:=by omega
  have hid:i<a0.defs.length:=by omega
  have hib:i<done.length:=by omega
  have hl2:=hg.2.2 a0.uses[i] (getElem_mem hiu);obtain⟨r,hr1,hr2⟩:=af6 (n:=n) hl hl2.1 hl2.2 (by omega);have hgi:a0.uses.getD i []=a0.uses[i]:=by simp[hiu]
  have hdi:done[i]=done.getD i false:=by simp[hib]
  simp only[iX,show decide ((i:Int)<a0.uses.length)=true from by simp;omega,aj,aO hiu,ai,aH,hr1,aV hib,bJ hib,hdi,aZ i];have keep:(done.getD i false=true\/r=true)->P4 a0.uses N done (i+1) w:=by intro hno;rcases hw with ⟨rfl,hw⟩|⟨j,rfl,hj,hw⟩;refine .inl ⟨rfl,λj hj h=>?_⟩;by_cases e:j=i;subst e;rw[hgi]at h;rcases hno with h3|h3;rw[h3]at h;exact absurd h.1 (by simp);have:=hr2.2 h.2;rw[h3]at this;cases this;exact hw j (by omega) h;exact .inr ⟨j,rfl,by omega,hw⟩
  cases hdn:done.getD i false with
  |true=>exact⟨_,by simp,w,rfl,hlt,keep (.inl hdn)⟩
  |false=>
   cases r with
   |true=>exact⟨_,by simp,w,rfl,hlt,keep (.inr rfl)⟩
   |false=>
    have al:P4 a0.uses N done (i+1) i:=.inr ⟨i,rfl,by omega,hdn⟩;rcases hw with ⟨rfl,hw⟩|⟨j,rfl,hj,hw⟩;exact⟨_,by simp,_,rfl,hlt,al⟩;have hjd:j<a0.defs.length:=(by omega);simp only[Bool.not_false,aj,show decide (j<0)=false from by simp,au,aO hid,aO hjd,ai];cases Xe a0.defs[i].name a0.defs[j].name with
    |true=>exact⟨_,rfl,_,rfl,hlt,al⟩
    |false=>exact⟨_,rfl,_,rfl,hlt,.inr ⟨j,rfl,by omega,hw⟩⟩
  right;have hiN:i=N:=by omega
  refine⟨(w,done),?_,w,rfl,hiN ▸ hw⟩;simp only[iX,show decide ((i:Int)<a0.uses.length)=false from by simp;omega,au,aH,aj]) n 0 (-1,0,done) ⟨_,rfl,Nat.zero_le _,.inl ⟨rfl,λj hj=>absurd hj (Nat.not_lt_zero _)⟩⟩ (by omega)
 exact⟨w,h1,h2⟩
theorem anS{n N:Nat}{a0:qI}(hg:zt a0.uses N)(hd:a0.defs.length=N)(hf:∀j,j<N->uA a0.uses N j)(hn:4000002<=n):∃l,oQ n a0=some l/\l.length=N/\∀k∈l,0<=k/\k<N:=by
 have hN:=hg.2.1;have hmx:maxLen=9223372036854775807:=rfl
 obtain⟨o,h1,h2⟩:=fE (step:=lq n a0) (λ c (v:Int×List Int×List Bool)=>∃out done,v=((c:Int),out,done)/\c<=N/\out.length=c/\(∀ k∈out,0<=k/\k<N)/\done.length=N/\done.count false=N-c)
  (λ o=>o.length=N/\∀k∈o,0<=k/\k<N) N (λ k v ⟨_,_,_,h,_⟩=>h) (by
  rintro c v ⟨out,done,rfl,hc,hol,hor,hdl,hcf⟩;by_cases hlt:c<N;left;have⟨w,hw1,hw2⟩:=anR (n:=n) hg hd hdl hn;have hopen:∃i0,i0<N/\done.getD i0 false=false:=by have hm:false∈done:=List.count_pos_iff.1 (by omega);obtain⟨i0,h0,e⟩:=mem_iff_getElem.1 hm;exact⟨i0,by omega,by simp[h0,e]⟩
  obtain⟨i0,h0,h0d⟩:=hopen;obtain⟨i,hi,hid,hia⟩:=apE hg hf (λ j=>done.getD j false=true) h0 (by rw[h0d];simp);rcases hw2 with ⟨rfl,hw2⟩|⟨j,rfl,hj,hjd⟩;exact absurd ⟨Bool.eq_false_iff.2 hid,hia⟩ (hw2 i hi);have hjl:j<done.length:=by omega
  have hap:bF out.length out.length (sub [(j:Int)] 0 1).length 1 8=true:=by simp[bF,sub];omega
  have hset:(done.set j true).length=done.length:=by simp
  refine⟨((c+1:Nat),out++[(j:Int)],done.set j true),?_,_,_,rfl,hlt,by simp[hol],?_,by simp[hdl],?_⟩;simp only[lq,show decide ((c:Int)<a0.defs.length)=true from by simp;omega,aj,aH,hw1,ai,aV hjl,bJ hjl,hap,dV,aZ c,show(((0:Nat):Int)+j).toNat=j by omega,Q8 hset.symm];simp[sub];intro k hk;rw[bI]at hk;rcases hk with hk|hk;exact hor k hk;simp at hk;subst hk;omega;have hjf:done[j]=false:=by simpa[List.getD,hjl]using hjd
  rw[List.count_set hjl,hcf,hjf];simp;omega;right;have:c=N:=by omega
  refine⟨out,?_,by omega,hor⟩;simp only[lq,show decide ((c:Int)<a0.defs.length)=false from by simp;omega,au,aH,aj]) n 0 (0,[],List.replicate N false) ⟨[],_,rfl,Nat.zero_le _,rfl,by simp,by simp,by simp⟩ (by omega)
 refine⟨o,?_,h2⟩;have hmk:qg N 1=true:=by simp[qg];omega
 simp only[oQ,hd,Int.le_refl,decide_true,Bool.true_and,show decide (0<=N)=true from by simp,hmk,aj,Int.toNat_natCast,h1,ai,dP,aH];simp
def qn(out:Y aR)(s:aR):Y aR:=
 match out.getLast? with
 |some q=>bif decide (s.from_<=q.to)then out.dropLast++[⟨q.from_,max q.to s.to⟩]else out++[s]
 |none=>[s]
theorem Yp out (s:aR):(qn out s).length<=out.length+1:=by
 unfold qn;cases out.getLast? with
 |none=>simp
 |some q=>simp;cases decide (s.from_<=q.to)<;>simp<;>omega
theorem aiD o (q s:aR):qn (o++[q]) s=bif decide (s.from_<=q.to)then o++[⟨q.from_,max q.to s.to⟩]else o++[q]++[s]:=by simp[qn]
abbrev HE(s:aR):Prop:=s.from_<s.to
def jp(l:Y aR)(y:Int):Bool:=l.any λs=>decide (s.from_<=y)&&decide (y<s.to)
def Can(l:Y aR):Prop:=l.Pairwise (λ a b=>a.to<b.from_)/\∀s∈l,HE s
theorem Pj l y:jp l y=true↔∃s∈l,s.from_<=y/\y<s.to:=by simp[jp]
theorem FQ(l m:Y aR) y:jp (l++m) y=(jp l y || jp m y):=by simp[jp]
theorem KO y:jp [] y=false:=rfl
theorem pU(s:aR) l y:jp (s::l) y=((decide (s.from_<=y)&&decide (y<s.to)) || jp l y):=by simp[jp]
theorem af7{l m:Y aR}(h:l.Perm m) y:jp l y=jp m y:=by rw[eZ,Pj,Pj];exact⟨λ ⟨s,hs,h1⟩=>⟨s,h.mem_iff.1 hs,h1⟩,λ⟨s,hs,h1⟩=>⟨s,h.mem_iff.2 hs,h1⟩⟩
theorem akl:Can []:=⟨List.Pairwise.nil,by simp⟩
theorem anT{out:Y aR}{s:aR}(hc:Can out)(hs:HE s)(hb:∀o∈out,o.from_<=s.from_):
 Can (qn out s)/\(∀ o∈qn out s,o.from_<=s.from_)/\∀y,jp (qn out s) y=(jp out y || jp [s] y):=by rcases List.eq_nil_or_concat out with rfl|⟨o,q,rfl⟩;refine⟨⟨by simp[qn],by simp[qn];exact hs⟩,by simp[qn],λy=>by simp[qn,jp]⟩;rw[List.concat_eq_append]at*;obtain⟨h1,h2⟩:=hc;rw[pairwise_append]at h1;obtain⟨p1,_,p3⟩:=h1;have hq:HE q:=h2 q (by simp);have hqs:q.from_<=s.from_:=hb q (by simp);rw[aiD];by_cases hj:s.from_<=q.to;simp only[hj,decide_true,aj];refine⟨⟨?_,?_⟩,?_,?_⟩;rw[pairwise_append];refine⟨p1,by simp,λa ha b hb'=>?_⟩;rw[bC]at hb';subst hb';exact p3 a ha q (by simp);intro a ha;rcases bI.1 ha with ha|ha;exact h2 a (by simp[ha]);rw[bC]at ha;subst ha;show q.from_<max q.to s.to;have:q.from_<q.to:=hq;omega;intro a ha;rcases bI.1 ha with ha|ha;exact hb a (by simp[ha]);rw[bC]at ha;subst ha;exact hqs;intro y;rw[FQ,FQ,Bool.or_assoc];congr 1;simp[pU,KO];rw[eZ];simp;have:q.from_<q.to:=hq;have:s.from_<s.to:=hs;omega;simp only[hj,decide_false,au];refine⟨⟨?_,?_⟩,?_,?_⟩;rw[pairwise_append];refine⟨?_,by simp,λa ha b hb'=>?_⟩;rw[pairwise_append];exact⟨p1,by simp,p3⟩;rw[bC]at hb';subst hb';rcases bI.1 ha with ha|ha;have:=p3 a ha q (by simp);have:q.from_<q.to:=hq;omega;rw[bC]at ha;subst ha;omega;intro a ha;rcases bI.1 ha with ha|ha;exact h2 a ha;rw[bC]at ha;subst ha;exact hs;intro a ha;rcases bI.1 ha with ha|ha;exact hb a ha;rw[bC]at ha;subst ha;exact Int.le_refl _;intro y;rw[FQ]
theorem Ro:∀(l out:Y aR),Can out->(∀ s∈l,HE s)->l.Pairwise (λ x y=>x.from_<=y.from_)->(∀ o∈out,∀s∈l,o.from_<=s.from_)->Can (l.foldl qn out)/\∀y,jp (l.foldl qn out) y=(jp out y || jp l y)
 |[],out,hc,_,_,_=>⟨hc,λy=>by simp[KO]⟩
 |s::l,out,hc,hv,hp,hb=>by rw[pairwise_cons]at hp;obtain⟨m1,m2,m3⟩:=anT hc (hv s (by simp)) (λ o ho=>hb o ho s (by simp));obtain⟨f1,f2⟩:=Ro l (qn out s) m1 (λ t ht=>hv t (by simp[ht])) hp.2 (λ o ho t ht=>Int.le_trans (m2 o ho) (hp.1 t ht));refine⟨f1,λy=>?_⟩;rw[foldl_cons,f2,m3,Bool.or_assoc,<- FQ];rfl
theorem af8{a:aR}{l:Y aR}(h:Can (a::l)):Can l:=⟨(pairwise_cons.1 h.1).2,λs hs=>h.2 s (by simp[hs])⟩
theorem KP{a:aR}{l:Y aR}(h:Can (a::l)){y:Int}(hy:jp l y=true):a.to<y:=by obtain⟨s,hs,h1,_⟩:=(Pj _ _).1 hy;have:=(pairwise_cons.1 h.1).1 s hs;omega
theorem ack{a:aR}{l:Y aR}(h:Can (a::l)){y:Int}(hy:jp (a::l) y=true):a.from_<=y:=by rw[pU,Bool.or_eq_true]at hy;rcases hy with hy|hy;simp at hy;exact hy.1;have:=KP h hy;have:a.from_<a.to:=h.2 a (by simp);omega
theorem Yq:∀{l m:Y aR},Can l->Can m->(∀ y,jp l y=jp m y)->l=m
 |[],[],_,_,_=>rfl
 |[],b::m,_,hm,h=>by have:=h b.from_;have hb:b.from_<b.to:=hm.2 b (by simp);rw[KO,pU]at this;simp[hb]at this
 |a::l,[],hl,_,h=>by have:=h a.from_;have ha:a.from_<a.to:=hl.2 a (by simp);rw[KO,pU]at this;simp[ha]at this
 |a::l,b::m,hl,hm,h=>by
  have ha:a.from_<a.to:=hl.2 a (by simp);have hb:b.from_<b.to:=hm.2 b (by simp);have ina:jp (a::l) a.from_=true:=by rw[pU];simp[ha]
  have YY:jp (b::m) b.from_=true:=by rw[pU];simp[hb]
  have e1:a.from_=b.from_:=by have h1:=ack hm (by rw[<- h];exact ina);have h2:=ack hl (by rw[h];exact YY);omega
  have nl:∀(c:aR) k,Can (c::k)->jp (c::k) c.to=false:=by
   intro c k hk;cases hc:jp (c::k) c.to with
   |false=>rfl
   |true=>
    rw[pU,Bool.or_eq_true]at hc;rcases hc with hc|hc;simp at hc;have:=KP hk hc;omega
  have e2:a.to=b.to:=by rcases Int.lt_trichotomy a.to b.to with hlt|he|hlt;have h1:=nl a l hl;rw[h,pU]at h1;simp at h1;omega;exact he;have h1:=nl b m hm;rw[<- h,pU]at h1;simp at h1;omega
  have e:a=b:=by cases a;cases b;simp at e1 e2;rw[e1,e2]
  subst e;rw[Yq (af8 hl) (af8 hm) λy=>?_];have hy:=h y;rw[pU,pU]at hy;cases h1:jp l y with
  |true=>
   have:=KP hl h1;have z:(decide (a.from_<=y)&&decide (y<a.to))=false:=(by rw[Bool.and_eq_false_iff,fw,fw];omega);rw[z,h1,Bool.false_or,Bool.false_or]at hy;rw[<- hy]
  |false=>
   cases h2:jp m y with
   |false=>rfl
   |true=>
    have:=KP hm h2;have z:(decide (a.from_<=y)&&decide (y<a.to))=false:=(by rw[Bool.and_eq_false_iff,fw,fw];omega);rw[z,h1,h2]at hy;simp at hy
def Hk(l:Y aR):Y aR:=(kG vm l).foldl qn []
theorem anU{l:Y aR}(h:l.Pairwise λx y=>vm y x=false):l.Pairwise λx y=>x.from_<=y.from_:=
 h.imp λ{x y} hxy=>by simp at hxy;omega
theorem acn{l:Y aR}(h:∀s∈l,HE s):Can (Hk l)/\∀y,jp (Hk l) y=jp l y:=by have hp:=Fu vm l;obtain⟨h1,h2⟩:=Ro (kG vm l) [] akl (λ s hs=>h s (hp.mem_iff.1 hs)) (anU (ank Ph l)) (by simp);exact⟨h1,λy=>by rw[Hk,h2,KO,Bool.false_or,af7 hp]⟩
theorem alz{l:Y aR}(h:∀s∈l,HE s):(iP vm l).foldl qn []=Hk l:=by have hp:=MN Ph l;obtain⟨h1,h2⟩:=Ro (iP vm l) [] akl (λ s hs=>h s (hp.mem_iff.1 hs)) (anU (OD Ph l)) (by simp);have⟨h3,h4⟩:=acn h;exact Yq h1 h3 λy=>by rw[h2,KO,Bool.false_or,af7 hp,h4]
theorem af9 l:(Hk l).length<=l.length:=by
 have:∀(ys out:Y aR),(ys.foldl qn out).length<=out.length+ys.length:=by
  intro ys
  induction ys with
  |nil=>intro out;simp
  |cons y ys ih=>
   intro out;simp;have:=ih (qn out y);have:=Yp out y;omega
 have h:=this (kG vm l) [];rw[cZ]at h;simpa[Hk]using h
abbrev ft(r:ax):Bool:=decide (0<=r.x0)&&(decide (r.x0<r.x1)&&(decide (r.x1<=1048576)&&(decide (0<=r.y0)&&(decide (r.y0<r.y1)&&decide (r.y1<=1048576)))))
theorem zZ(a b:Bool):(bif a then some b else some false)=some (a&&b):=by cases a<;>rfl
theorem Yr(a b:Bool):(bif a then some true else some b)=some (a || b):=by cases a<;>rfl
theorem jM(r:ax):qm r=some (ft r):=by simp[qm,zZ]
def lC(l:Y ax)(x:Int):Y aR:=(l.filter λr=>decide (r.x0<=x)&&decide (x<r.x1)).map λr=>⟨r.y0,r.y1⟩
def dG(l:Y ax)(x:Int):Y aR:=Hk (lC l x)
theorem JA l x:(lC l x).length<=l.length:=by simp[lC];exact length_filter_le _ _
theorem z8 l x:(dG l x).length<=l.length:=
 Nat.le_trans (af9 _) (JA l x)
theorem arQ{r:ax}(h:ft r=true):r.y0<r.y1:=by simp at h;omega
theorem Yt{l:Y ax}(h:∀r∈l,ft r=true) x:∀s∈lC l x,HE s:=by intro s hs;simp[lC]at hs;obtain⟨r,⟨hr,_⟩,rfl⟩:=hs;exact arQ (h r hr)
theorem Rp{l:Y ax}{x:Int}(hl:l.length<1099511627776){n:Nat}(hn:l.length<n):iter (uS l x) n (0,[])=some (lC l x):=by
 have:=dQ (l:=l) (step:=uS l x) (λ i s=>(i,s)) (λ r s=>bif decide (r.x0<=x)&&decide (x<r.x1)then s++[⟨r.y0,r.y1⟩]else s) (λ s=>s) (λ i s=>s.length<=i)
  (λ i hi s hs=>?_) (λ s hs=>by simp[uS]) n hn [] (aB _)
 rw[fm]at this;rw[this];congr 1;have gen:∀ys s,ys.foldl (λ s r=>bif decide (r.x0<=x)&&decide (x<r.x1)then s++[⟨r.y0,r.y1⟩]else s) s=s++lC ys x:=by
  intro ys
  induction ys with
  |nil=>intro s;simp[lC]
  |cons y ys ih=>
   intro s;simp[ih];cases h:(decide (y.x0<=x)&&decide (x<y.x1))with
   |true|false=>simp[lC,h]
 simpa using gen l [];have hi':decide ((i:Int)<l.length)=true:=by simpa using hi
 have ap:bF s.length s.length (sub ([aR.mk l[i].y0 l[i].y1]:Y aR) 0 1).length 1 16=true:=bV (n:=1) (by omega) (by simp[maxLen];omega);simp only[uS,hi',aj,aO hi,ai,zZ];cases h:(decide (l[i].x0<=x)&&decide (x<l[i].x1))with
 |true=>
  simp only[aj,ap,dV,aH,ai];refine⟨?_,by simp;omega⟩;rw[aL (by omega)];rfl
 |false=>
  simp only[au,aH,aj,ai];exact⟨by rw[aL (by omega)],by omega⟩
theorem Rq(w1 r2:Y aR)(hw:w1.length=r2.length)(hl:r2.length<1099511627776)(hn:r2.length<n):iter (uT w1 r2) n (0,[])=some (r2.foldl qn []):=by
 have:=dQ (l:=r2) (step:=uT w1 r2) (λ i s=>(i,s)) (λ r s=>qn s r) (λ s=>s) (λ i s=>s.length<=i)
  (λ i hi s hs=>?_) (λ s hs=>by simp[uT,hw]) n hn [] (aB _)
 rw[fm]at this;exact this;refine⟨?_,by have:=Yp s r2[i];omega⟩;have hi':decide ((i:Int)<(w1.length:Nat))=true:=by simp;omega
 have ib:cV i w1.length=true:=aV (by omega);have ap:bF s.length s.length (sub ([r2[i]]:Y aR) 0 1).length 1 16=true:=bV (n:=1) (by omega) (by simp[maxLen];omega);simp only[uT,hi',aj,ib,bJ hi,ai];rcases List.eq_nil_or_concat s with rfl|⟨s0,q,LO⟩;have d0:decide ((([]:Y aR).length:Nat)>0)=false:=by simp
 simp;rw[aL (by omega)];rfl;rw[List.concat_eq_append]at LO;subst LO;have d0:decide (((((s0++[q]).length:Nat):Int))>0)=true:=by simp<;>omega
 have DG:(s0++[q]).length=s0.length+1:=by simp
 have wp:i64.wrap (((s0++[q]).length:Nat)-1)=(s0.length:Nat):=by rw[nU (by simp) (by omega),DG];rfl
 have Zs:cV (s0.length:Nat) (s0++[q]).length=true:=aV (by omega);have g:bx (s0++[q]) ((0:Nat)+(s0.length:Nat))=some q:=by rw[Fj];simp
 have z:(((0:Nat):Int)+(s0.length:Nat)).toNat=s0.length:=by simp
 have st:(s0++[q]).set s0.length (aR.mk q.from_ (max q.to r2[i].to))=s0++[⟨q.from_,max q.to r2[i].to⟩]:=by simp
 have m:qn (s0++[q]) r2[i]=bif decide (r2[i].from_<=q.to)then s0++[⟨q.from_,max q.to r2[i].to⟩]else s0++[q]++[r2[i]]:=by simp[qn]
 simp only[d0,aj,wp,Zs,g,ai,m,z,st];cases decide (r2[i].from_<=q.to)with
 |true=>
  have e:aE (s0++[q]).length (s0++[(⟨q.from_,max q.to r2[i].to⟩:aR)]).length=true:=by simp
  simp only[aj,e,ai,aH];rw[aL (by omega)]
 |false=>
  simp only[au,ap,aj,dV,aH,ai];rw[aL (by omega)];rfl
theorem adQ{l:Y ax}{x:Int}(hv:∀r∈l,ft r=true)(hl:l.length<1099511627776)(hn:l.length<n):KG n l x=some (dG l x):=by have h1:=JA l x;have h2:(iP vm (lC l x)).length=(lC l x).length:=Fq Ph _;unfold KG;simp[Rp (x:=x) (l:=l) (by omega) (n:=n) (by omega)];rw[KZ (λ a b=>if a.from_<b.from_ then -1 else if b.from_<a.from_ then 1 else 0) (λ a b=>by show yS a b=_;unfold yS;rw[kX];rfl) (λ a b=>by by_cases h1:a.from_<b.from_;simp[h1];by_cases h2:b.from_<a.from_<;>simp[h1,h2]) (by omega) (by omega)];simp;rw[Rq _ _ h2.symm (by omega) (by omega)];simp;rw[alz (Yt hv x)];rfl
def iB(l:Y ax):Y Int:=yz (l.flatMap λr=>[r.x0,r.x1])
def jN{α:Type}(f:Int->Int->α):Y Int->Y α
 |a::b::l=>f a b::jN f (b::l)
 |_=>[]
def bn(l:Y ax):Y bR:=jN (λ a b=>⟨a,b,dG l a⟩) (iB l)
theorem tQ{α:Type}(f:Int->Int->α):∀l,(jN f l).length=l.length-1/\∀i (h:i+1<l.length) (h':i<(jN f l).length),(jN f l)[i]=f l[i] l[i+1]
 |[]|[a]=>⟨rfl,λi h=>by simp at h⟩
 |a::b::l=>by
  have⟨h1,h2⟩:=tQ f (b::l);refine⟨by simp only[jN,d9,h1];simp,λi h h'=>?_⟩;cases i with
  |zero=>rfl
  |succ i=>
   simp;exact h2 i (by simpa using h) _
theorem yj(l:Y ax):(l.flatMap λr=>[r.x0,r.x1]).length=2*l.length:=by
 induction l with
 |nil=>rfl
 |cons x l ih=>simp[ih];omega
theorem pV l:(iU l).length<=l.length:=by
 match l with
 |[]|[x]=>simp[iU]
 |x::y::l=>
  have:=pV (y::l);simp[iU];cases x==y<;>simp at* <;>omega
theorem Mj l:(iB l).length<=2*l.length:=by have h:=pV (kG (λ a b=>decide (a<b)) (l.flatMap λr=>[r.x0,r.x1]));rw[cZ,yj]at h;exact h
theorem Rs{l:Y ax}(hl:l.length<10995116277)(hn:l.length<n):iter (uU l) n (0,[])=some (l.flatMap λr=>[r.x0,r.x1]):=by
 have:=dQ (l:=l) (step:=uU l) (λ i s=>(i,s)) (λ r s=>s++[r.x0,r.x1]) (λ s=>s) (λ i s=>s.length<=2*i)
  (λ i hi s hs=>?_) (λ s hs=>by simp[uU]) n hn [] (aB _)
 rw[fm]at this;rw[this];have gen:∀(ys:Y ax) s,ys.foldl (λ s r=>s++[r.x0,r.x1]) s=s++ys.flatMap λr=>[r.x0,r.x1]:=by
  intro ys
  induction ys with
  |nil=>intro s;simp
  |cons y ys ih=>intro s;simp[ih]
 congr 1;simpa using gen l [];have hi':decide ((i:Int)<(l.length:Nat))=true:=by simpa using hi
 have ap:bF s.length s.length (sub ([l[i].x0,l[i].x1]:Y Int) 0 2).length 2 8=true:=bV (n:=2) (by omega) (by simp[maxLen];omega);simp only[uU,hi',aj,aV hi,bJ hi,ai,ap,dV,aH];refine⟨?_,by simp;omega⟩;rw[aL (by omega)];rfl
theorem za{ls:Y (List ax)}(hv:∀r∈ls.flatten,ft r=true)(hl:ls.flatten.length<10995116277)(hls:ls.length<1099511627776)(hn:2*ls.flatten.length<n)(hn2:ls.length<n):pY n ls=some (bn ls.flatten):=by
 unfold pY;rw[Pg (by omega) hls hn2];generalize ls.flatten=l at*;have he:=Mj l;simp[Rs (l:=l) (n:=n) (by omega) (by omega)];rw[kY (by rw[yj];omega) (by rw[yj];omega)];simp only[ai,cZ,aH,aj];rw[ni (by rw[cZ,yj];omega) (by rw[cZ,yj];omega)];simp only[ai];have hE:iU (kG px (l.flatMap λr=>[r.x0,r.x1]))=iB l:=rfl;rw[hE];obtain⟨p1,p2⟩:=tQ (λ a b=>(⟨a,b,dG l a⟩:bR)) (iB l);have key:iter (uV n l ((),iB l)) n (1,[])=some (bn l):=by
  have:=fV (step:=uV n l ((),iB l)) (λ i=>((i+1:Nat),(bn l).take i)) (bn l).length (bn l) (λ i hi=>?_) ?_ n (by unfold bn;omega);simpa using this;have hi2:i+1<(iB l).length:=by unfold bn at hi;omega
  have d:decide (((i+1:Nat):Int)<((iB l).length:Nat))=true:=by simp;omega
  have wp:i64.wrap ((i+1:Nat)-1)=(i:Nat):=by rw[nU (by omega) (by omega)];rfl
  have ap:bF ((bn l).take i).length ((bn l).take i).length (sub ([bR.mk ((iB l)[i]'(by omega)) (iB l)[i+1] (dG l ((iB l)[i]'(by omega)))]:Y bR) 0 1).length 1 40=true:=by refine bV (n:=1) ?_ ?_;rw[length_take];unfold bn;omega;rw[length_take];unfold bn;simp[maxLen];omega
  have tk:(bn l).take (i+1)=(bn l).take i++[⟨(iB l)[i]'(by omega),(iB l)[i+1],dG l ((iB l)[i]'(by omega))⟩]:=by rw[iY hi];congr 2;exact p2 i hi2 hi
  simp only[uV,d,aj,wp,aV (show i<(iB l).length by omega),bJ (show i<(iB l).length by omega),ai,aV hi2,bJ hi2,dP,aH,adQ (l:=l) (n:=n) hv (by omega) (by omega),ap,dV];rw[aL (by omega),tk];rfl;have d:decide ((((bn l).length+1:Nat):Int)<((iB l).length:Nat))=false:=by unfold bn;simp;omega
  simp only[uV,d,au,List.take_length,aH,aj]
 rw[key];simp
def FR(x0 x1:Int)(c:Y aR):Y ax:=c.map λq=>⟨x0,q.from_,x1,q.to⟩
def Hj(x0 x1:Int)(c:Y aR):Y bR->Y ax
 |[]=>FR x0 x1 c
 |s::l=>if s.column=c then Hj x0 s.x1 c l else FR x0 x1 c++Hj s.x0 s.x1 s.column l
def oZ:Y bR->Y ax
 |[]=>[]
 |s::l=>Hj s.x0 s.x1 s.column l
theorem aco x0 c:∀(l:Y bR) x1 (k:Nat) (hk:k<=l.length),(∀ j (hj:j<k),(l[j]'(by omega)).column=c)->(∀ h:k<l.length,l[k].column≠c)->
 Hj x0 x1 c l=FR x0 (if h:0<k then(l[k-1]'(by omega)).x1 else x1) c++oZ (l.drop k)
 |l,x1,0,_,_,h2=>by
  cases l with
  |nil=>simp[Hj,oZ]
  |cons s l=>
   have:=h2 (by simp);simp at this;simp[Hj,oZ,this]
 |[],x1,k+1,hk,_,_=>by simp at hk
 |s::l,x1,k+1,hk,h1,h2=>by
  have e0:=h1 0 (by omega);simp at e0;simp[Hj,e0];rw[aco x0 c l s.x1 k (by simpa using hk) (λ j hj=>by have:=h1 (j+1) (by omega);simpa using this) (λ h=>by have:=h2 (by simpa using h);simpa using this)];simp;congr 2;by_cases hk0:0<k;simp[hk0];obtain⟨m,rfl⟩:∃m,k=m+1:=⟨k-1,by omega⟩;simp;have:k=0:=by omega
  subst this;simp
theorem Uy{l:Y bR}{i k:Nat}(hi:i<l.length)(hk1:0<k)(hk:k<=l.length)(hl:l.length<10995116277)(x3:bR) out (ho:out.length<1099511627776) (hc:x3.column.length<1099511627776) (hn:x3.column.length<n):
 iter (xS l i k x3) n (0,out)=some (out++FR l[i].x0 (l[k-1]'(by omega)).x1 x3.column):=by
 have:=dQ (l:=x3.column) (step:=xS l i k x3) (λ j s=>(j,s)) (λ q s=>s++[⟨l[i].x0,q.from_,(l[k-1]'(by omega)).x1,q.to⟩]) (λ s=>s) (λ j s=>s.length<=out.length+j)
  (λ j hj s hs=>?_) (λ s hs=>by simp[xS]) n hn out (aB _)
 rw[fm]at this;rw[this];have gen:∀ys s,ys.foldl (λ s q=>s++[⟨l[i].x0,q.from_,(l[k-1]'(by omega)).x1,q.to⟩]) s=s++FR l[i].x0 (l[k-1]'(by omega)).x1 ys:=by
  intro ys
  induction ys with
  |nil=>intro s;simp[FR]
  |cons y ys ih=>intro s;simp[ih];simp[FR]
 rw[gen];have hj':decide ((j:Int)<x3.column.length)=true:=by simpa using hj
 have wp:i64.wrap (k-1)=(k-1:Nat):=nU hk1 (by omega);have ap:bF s.length s.length (sub ([ax.mk l[i].x0 (x3.column[j]).from_ (l[k-1]'(by omega)).x1 (x3.column[j]).to]:Y ax) 0 1).length 1 32=true:=bV (n:=1) (by omega) (by simp[maxLen];omega);simp only[xS,hj',aj,aO hj,aO hi,wp,aO (show k-1<l.length by omega),ai,ap,dV,aH];refine⟨?_,by simp;omega⟩;rw[aL (by omega)];rfl
theorem TW{l:Y bR}{b:Nat}(hb:b<=100000)(hl:l.length<=100000)(hc:∀s∈l,s.column.length<=b)(hn:b<n)(hn2:l.length<n):Jp n l=some (oZ l):=by
 unfold Jp;simp only[length_nil,aH,aj];have main:∀(m i:Nat)(out:Y ax)(k:Nat),i+m=l.length->m<k->out.length<=i*b->iter (xU n l) k ((i:Int),out)=some (out++oZ (l.drop i)):=by
  intro m
  induction m using Nat.strongRecOn with
  |ind m ih=>
   intro i out k him hk ho;obtain⟨k,rfl⟩:∃j,k=j+1:=⟨k-1,by omega⟩;by_cases hm:m=0;subst hm;have:i=l.length:=(by omega);subst this;refine fP ?_;simp[xU,oZ];have hi:i<l.length:=(by omega);have di:decide ((i:Int)<(l.length:Int))=true:=(by simpa using hi);obtain⟨q,hq1,hq2,hq3,hq4⟩:∃q,i<q/\q<=l.length/\(∀ j,i<j->j<q->∀h:j<l.length,l[j].column=l[i].column)/\(∀ h:q<l.length,l[q].column≠l[i].column):=(by rcases Mf (λ j=>if h:j<l.length then decide (l[j].column≠l[i].column)else false) (i+1) l.length with ⟨q,h1,h2,h3,h4⟩|h;simp[h2]at h3;refine⟨q,by omega,by omega,λj hj1 hj2 hj=>?_,λ_=>h3⟩;have:=h4 j (by omega) hj2;simp[hj,Decidable.not_not]at this;exact this;refine⟨l.length,hi,aB _,λj hj1 hj2 hj=>?_,λh=>by omega⟩;have:=h j (by omega) hj;simp[hj,dite_true,fw,ne_eq,Decidable.not_not]at this;exact this);have cl:∀j (hj:j<l.length),l[j].column.length<=b:=λj hj=>hc _ (getElem_mem hj);have r2:iter (uh n l (i:Int)) n (i64.wrap ((i:Int)+1))=some (q:Int):=(by rw[aL (by omega)];have:=fV (step:=uh n l (i:Int)) (λ j=>((i+1+j:Nat):Int)) (q-(i+1)) q (λ j hj=>?_) ?_ n (by omega);simpa using this;have hjl:i+1+j<l.length:=(by omega);have dj:decide (((i+1+j:Nat):Int)<l.length)=true:=(by simp;omega);have hcc:=cl (i+1+j) hjl;simp only[uh,dj,aj,aO hjl,aO hi,ai];rw[Eb (by omega) (by omega),hq3 (i+1+j) (by omega) (by omega) hjl];simp only[decide_true,ai,aj];rw[aL (by omega)];rfl;rw[show i+1+(q-(i+1))=q by omega];by_cases B4:q<l.length;have dj:decide ((q:Nat)<l.length)=true:=(by simpa using B4);have hcc:=cl q B4;simp[uh,dj,aj,aO B4,aO hi,ai];rw[Eb (by omega) (by omega)];simp[hq4 B4];have dj:decide ((q:Int)<l.length)=false:=(by simp;omega);simp only[uh,dj,au,ai]);have ob:i*b<=100000*100000:=Nat.mul_le_mul (by omega) hb;have hci:=cl i hi;have r3:=Uy (n:=n) hi (show 0<q by omega) hq2 (by omega) l[i] out (by omega) (by omega) (by omega);have step:xU n l (i,out)=some (.inl (q,out++FR l[i].x0 (l[q-1]'(by omega)).x1 l[i].column)):=(by simp only[xU,di,aj,r2,aO hi,ai,aH,r3]);rw[jP step,ih (l.length-q) (by omega) q _ k (by omega) (by omega) (by rw[eU,FR,length_map];have:(i+1)*b<=q*b:=Nat.mul_le_mul_right _ (by omega);rw[Nat.add_mul]at this;omega)];rw[aU];congr 2
   conv=>rhs;rw[List.drop_eq_getElem_cons hi]
   simp[oZ];rw[aco l[i].x0 l[i].column (l.drop (i+1)) l[i].x1 (q-(i+1)) (by rw[length_drop];omega) (λ j hj=>by rw[getElem_drop];exact hq3 _ (by omega) (by omega) (by omega)) (λ h=>by rw[length_drop]at h;rw[getElem_drop];have:=hq4 (by omega);have hqq:i+1+(q-(i+1))=q:=(by omega);simp[hqq];exact this)];rw[List.drop_drop,show i+1+(q-(i+1))=q by omega];congr 2;by_cases h0:0<q-(i+1);simp[h0,dite_true,getElem_drop];congr 2;omega;simp[h0,dite_false];have:q-1=i:=(by omega);congr 2
 have:=main l.length 0 [] n (by omega) (by omega) (by simp);simp[Int.natCast_zero,fI,List.drop_zero]at this;rw[this];simp
def tx(l:Y ax):Y ax×Int:=
 if l.all ft then(if l.length>400 then([],6)else if (oZ (bn l)).length>200 then([],6)else(oZ (bn l),0))else([],1)
def da(l:Y ax):Bool:=decide ((tx l).2=0)&&decide ((tx l).1=l)
theorem aga{l:Y ax}{s:bR}(h:s∈bn l):s.column.length<=l.length:=by obtain⟨i,hi,rfl⟩:=List.getElem_of_mem h;obtain⟨p1,p2⟩:=tQ (λ a b=>(⟨a,b,dG l a⟩:bR)) (iB l);have:(bn l)[i]=⟨(iB l)[i]'(by unfold bn at hi;omega),(iB l)[i+1]'(by unfold bn at hi;omega),dG l ((iB l)[i]'(by unfold bn at hi;omega))⟩:=p2 i (by unfold bn at hi;omega) hi;rw[this];exact z8 l _
theorem vD l:(bn l).length<=2*l.length:=by obtain⟨p1,_⟩:=tQ (λ a b=>(⟨a,b,dG l a⟩:bR)) (iB l);have:=Mj l;unfold bn;omega
theorem anV{l:Y ax}(hl:l.length<1099511627776)(hl2:l.length<n)(hn:1000<=n):Tu n l=some (tx l):=by
 unfold Tu;have h1:=kI (l:=l) (step:=O4 l) (λ i=>i) (λ r=>!ft r) () (λ _=>([],1)) (λ i hi=>?_) ?_ n (by omega);rw[fm]at h1;rw[h1];have h2:=jW (λ r=>!ft r) l;cases hf:nM (λ r=>!ft r) l with
 |some i=>
  rw[hf]at h2;have:l.all ft=false:=by rw[<- Bool.not_eq_true,all_eq_true];intro hall;have h3:=h2.symm;simp only[Option.isSome_some,any_eq_true]at h3;obtain⟨x,hx,hx2⟩:=h3;rw[hall x hx]at hx2;cases hx2
  simp[tx,this]
 |none=>
  rw[hf]at h2;have:l.all ft=true:=by
   rw[all_eq_true];intro x hx;cases h:ft x with
   |true=>rfl
   |false=>
    have:l.any (λ r=>!ft r)=true:=any_eq_true.2 ⟨x,hx,by rw[h];rfl⟩;rw[this]at h2;cases h2
  have hv:∀r∈l,ft r=true:=all_eq_true.1 this;by_cases My:l.length>400;have d4:decide ((l.length:Int)>400)=true:=by simp;omega
  simp[d4,tx,this,aP My];have d4:decide ((l.length:Int)>400)=false:=by simp;omega
  have ls:=vD l;simp[d4];have fl:[l].flatten=l:=by simp
  rw[show (sub ([l]:Y (List ax)) 0 1)=[l]from rfl,za (ls:=[l]) (by rw[fl];exact hv) (by rw[fl];omega) (by simp) (by rw[fl];omega) (by simp;omega),fl];simp;rw[TW (b:=400) (by omega) (by omega) (λ s hs=>Nat.le_trans (aga hs) (by omega)) (by omega) (by omega)];simp[zQ,tx,this,aM My];by_cases s8:(oZ (bn l)).length>200;have:decide (((oZ (bn l)).length:Int)>200)=true:=by simp;omega
  simp[this,s8];have:decide (((oZ (bn l)).length:Int)>200)=false:=by simp;omega
  simp[this,s8]
 have hi':decide ((i:Int)<l.length)=true:=by simpa using hi
 simp only[O4,hi',aj,aO hi,ai,jM];cases ft l[i]with
 |false=>rfl
 |true=>simp only[Bool.not_true,au];rw[aL (by omega)]
 simp[O4]
theorem jr{l:Y ax}(hl:l.length<1099511627776)(hl2:l.length<n)(hn:1000<=n):l9 n l=some (da l):=by
 unfold l9 da;rw[anV hl hl2 hn];simp;by_cases h:(tx l).2=0;have e:((tx l).2==0)=true:=by simp[h]
 have lo:(tx l).1.length<=200:=by unfold tx;split;split;simp;split;simp;simp;omega;simp
 by_cases hlen:(tx l).1.length<n;simp only[h,decide_true,Bool.true_and];rw[Ea (by omega) hlen];rfl;have:(tx l).1.length≠l.length:=by omega
 have hne:(tx l).1≠l:=λe=>this (by rw[e]);simp[h];unfold p8;have hb:(((tx l).1.length:Int) !=l.length)=true:=by simp;omega
 rw[hb];simp[hne];have e:((tx l).2==0)=false:=by simp[h]
 simp[e,h]
theorem FT{α:Type} c (a b:α):(bif c then some a else some b)=some (bif c then a else b):=by cases c<;>rfl
theorem acp(i n:Nat):Int.tmod (i:Int) (n:Int)=(i%n:Nat):=by rw[Int.tmod_eq_emod_of_nonneg (by omega)];omega
theorem cK{i n:Nat}(h:i<n):decide ((i:Int)<(n:Nat))=true:=by simpa using h
theorem Pk(n:Nat):decide ((n:Int)<(n:Nat))=false:=by simp
theorem akm{k b:Nat}(h:k*b<=140737488355328)(h2:k<=maxLen):qg k b=true:=by
 have e:((k:Int)).toNat=k:=by omega
 simp only[qg,aT,bf,e];exact⟨⟨by omega,h⟩,h2⟩
def rK(p:Y eD)(i:Nat):eD:=p.getD i ⟨0,0⟩
def jv(p:Y eD)(i:Nat):jQ:=⟨(rK p i).x,(rK p i).y,(rK p ((i+1)%p.length)).x,(rK p ((i+1)%p.length)).y⟩
def gF(p:Y eD):Y jQ:=(List.range p.length).map (jv p)
theorem V6{p:Y eD}{i:Nat}(h:i<p.length):rK p i=p[i]:=by simp[rK,h]
theorem dY p:(gF p).length=p.length:=by simp[gF]
theorem Aa{p:Y eD}{i:Nat}(h:i<(gF p).length):(gF p)[i]=jv p i:=by simp[gF]
theorem anW{α:Type}(A B:Y α)(z x:α):(A++z::B).set A.length x=A++x::B:=by rw[List.set_append_right _ _ (aB _),Nat.sub_self];rfl
theorem BG{p:Y eD}(hl:p.length<=100000)(hn:p.length<n):qM n p=some (gF p):=by
 unfold qM;have mk:qg (p.length:Nat) 32=true:=akm (by omega) (by show p.length<=2 ^ 63-1;omega);have main:=fV (step:=qp p) (λ i=>((i:Nat),(List.range i).map (jv p)++List.replicate (p.length-i) (jQ.mk 0 0 0 0))) p.length (gF p) (λ i hi=>?_) ?_ n hn;have z:((p.length:Int)).toNat=p.length:=by omega
 simp only[List.range_zero,List.map_nil,fI,Nat.sub_zero]at main;have d1:decide ((p.length:Int)<=(p.length:Nat))=true:=by simp
 have d2:decide ((0:Int)<=(p.length:Nat))=true:=by simp
 rw[mk,d1,d2,z];simp;rw[fm]at main;rw[main];simp;have e:sub (gF p) 0 p.length=gF p:=by rw[<- dY p];exact dP _
 rw[e,dY];simp;have nz:((p.length:Int) !=0)=true:=by simp;intro h;rw[h]at hi;simp at hi
 have md:(i+1)%p.length<p.length:=Nat.mod_lt _ (by omega);have w:i64.wrap (i+1)=(i+1:Nat):=aL (by omega);have z:((p.length:Int)).toNat=p.length:=by omega
 have rp:List.replicate (p.length-i) (jQ.mk 0 0 0 0)=jQ.mk 0 0 0 0::List.replicate (p.length-(i+1)) (jQ.mk 0 0 0 0):=by rw[show p.length-i=(p.length-(i+1))+1 by omega,List.replicate_succ]
 have la:((List.range i).map (jv p)).length=i:=by simp
 have g:bx ((List.range i).map (jv p)++List.replicate (p.length-i) (jQ.mk 0 0 0 0)) ((0:Nat)+(i:Nat))=some (jQ.mk 0 0 0 0):=by rw[Fj,qj (by omega),la,rp,Nat.sub_self];rfl
 have z2:(((0:Nat):Int)+(i:Nat)).toNat=i:=by omega
 have st:((List.range i).map (jv p)++List.replicate (p.length-i) (jQ.mk 0 0 0 0)).set i (jv p i)=(List.range (i+1)).map (jv p)++List.replicate (p.length-(i+1)) (jQ.mk 0 0 0 0):=by rw[rp];have:=anW ((List.range i).map (jv p)) (List.replicate (p.length-(i+1)) (jQ.mk 0 0 0 0)) (jQ.mk 0 0 0 0) (jv p i);rw[la]at this;rw[this,List.range_succ,map_append,aU];rfl
 simp only[qp,cK hi,aj,aO hi,ai,nz,w,acp,aO md,z,aV hi,g,z2];rw[<- V6 hi,<- V6 md];rw[show jQ.mk (rK p i).x (rK p i).y (rK p ((i+1)%p.length)).x (rK p ((i+1)%p.length)).y=jv p i from rfl,st];simp[qp];rfl
def V7(a:eD):Bool:=decide (0<=a.x)&&(decide (a.x<=1048576)&&(decide (0<=a.y)&&decide (a.y<=1048576)))
def xi(s:jQ):Bool:=s.mT==s.np
def VV(s t:jQ):Bool:=decide (max (min s.mT s.np) (min t.mT t.np)<=min (max s.mT s.np) (max t.mT t.np))&&decide (max (min s.rj s.xc) (min t.rj t.xc)<=min (max s.rj s.xc) (max t.rj t.xc))
def V8(a b:eD):Bool:=decide (a.x<b.x) || (a.x==b.x&&decide (a.y<b.y))
theorem Pm(a:eD):u6 a=some (V7 a):=by simp[u6,zZ,V7]
theorem Ec(s t:jQ):mH s t=some (VV s t):=by simp[mH,zZ,VV]
theorem ow(s:jQ):gY s=some (xi s):=rfl
theorem Yu(a b:Int)(hn:3<=n):wP n [a,b]=some (if a=0 then b else a):=by
 obtain⟨m,rfl⟩:∃m,n=m+3:=⟨n-3,by omega⟩;have w1:i64.wrap (0+1)=1:=by decide
 have w2:i64.wrap (1+1)=2:=by decide
 by_cases ha:a=0;by_cases hb:b=0;subst ha;subst hb;simp;rfl;have hb':(b !=0)=true:=by simpa using hb
 subst ha;simp only[wP,Kv,Cm,w1];simp[bx,hb'];have ha':(a !=0)=true:=by simpa using ha
 simp[wP,Kv,Cm];simp[bx,ha',ha]
theorem MX(a b:eD)(hn:3<=n):∃r,tq n a b=some r/\decide (r>=0)=!V8 a b:=by
 unfold tq;rw[kX,kX];simp;rw[show ∀u v:Int,sub [u,v] 0 2=[u,v]from λ_ _=>rfl,Yu _ _ hn];refine⟨_,rfl,?_⟩;unfold V8;by_cases h1:a.x<b.x;simp[h1];by_cases h2:b.x<a.x;have h3:¬a.x=b.x:=by omega
 simp[h1,h2,h3];have h3:a.x=b.x:=by omega
 by_cases h4:a.y<b.y;simp[h3,h4];by_cases h5:b.y<a.y<;>simp[h3,h4,h5]
def On(p:Y eD)(i:Nat):Bool:=
 (!V7 (rK p i) || ((((jv p i).mT==(jv p i).np)==((jv p i).rj==(jv p i).xc)) || (xi (jv p i)==xi (jv p ((i+1)%p.length))))) || (decide (0<i)&&!V8 (rK p 0) (rK p i))
def Uz(p:Y eD)(i k:Nat):Bool:=decide (i+p.length-k>1)&&VV (jv p i) (jv p k)
def Rt(p:Y eD):Bool:=
 decide (4<=p.length)&&(decide (p.length<=60)&&(!((List.range p.length).any (On p))&&(!((List.range p.length).any λi=>(List.range p.length).any λk=>decide (i+2<=k)&&Uz p i k)&&!xi (jv p 0))))
def aiG(l:Y ax)(x y:Int):Bool:=l.any λr=>(decide (r.x0<=x)&&decide (x<r.x1))&&(decide (r.y0<=y)&&decide (y<r.y1))
theorem agb l (x y:Int):jp (lC l x) y=aiG l x y:=by
 induction l with
 |nil=>rfl
 |cons r l ih=>
  unfold lC aiG at*;rw[List.filter_cons,List.any_cons,<- ih];cases h:(decide (r.x0<=x)&&decide (x<r.x1))with
  |true=>simp;rw[pU]
  |false=>simp
theorem Pn{l:Y ax}(h:∀r∈l,ft r=true) x:Can (dG l x)/\∀y,jp (dG l x) y=aiG l x y:=by have⟨h1,h2⟩:=acn (Yt h x);exact⟨h1,λy=>by rw[dG,h2,agb]⟩
def Yv:Y bR->Prop
 |[]=>True
 |[s]=>s.x0<s.x1
 |s::t::l=>s.x0<s.x1/\s.x1=t.x0/\Yv (t::l)
def JB:Y bR->Int->Y aR
 |[],_=>[]
 |s::l,x=>bif decide (s.x0<=x)&&decide (x<s.x1)then s.column else JB l x
theorem Ab(s:bR) l x:JB (s::l) x=bif decide (s.x0<=x)&&decide (x<s.x1)then s.column else JB l x:=rfl
def Runs:Y bR->Prop
 |[]=>True
 |[s]=>s.x0<s.x1/\s.column≠[]
 |s::t::l=>(s.x0<s.x1/\s.column≠[])/\s.x1<=t.x0/\(s.x1=t.x0->s.column≠t.column)/\Runs (t::l)
theorem apF{s:bR}{l:Y bR}{x:Int}(h1:s.x0<=x)(h2:x<s.x1):JB (s::l) x=s.column:=by rw[Ab,show(decide (s.x0<=x)&&decide (x<s.x1))=true by simp[h1,h2]];rfl
theorem rJ{α:Type}(f:Int->Int->α)(a b:Int) l:jN f (a::b::l)=f a b::jN f (b::l):=rfl
theorem Po(g:Int->Y aR):∀es,es.Pairwise (· < ·)->Yv (jN (λ a b=>(⟨a,b,g a⟩:bR)) es)
 |[],_|[_],_=>trivial
 |[a,b],h=>by have h1:=(pairwise_cons.1 h).1 b (by simp);exact h1
 |a::b::c::l,h=>by have h1:=(pairwise_cons.1 h).1 b (by simp);exact⟨h1,rfl,Po g (b::c::l) (pairwise_cons.1 h).2⟩
theorem JC(g:Int->Y aR) x:∀es,(∀ e∈es,x<e)->JB (jN (λ a b=>(⟨a,b,g a⟩:bR)) es) x=[]
 |[],_|[_],_=>rfl
 |a::b::l,h=>by have ha:=h a (by simp);rw[rJ,Ab,show(decide (a<=x)&&decide (x<b))=false by rw[Bool.and_eq_false_iff,fw];left;omega,au];exact JC g x (b::l) λe he=>h e (eG _ he)
theorem JD(g:Int->Y aR) x:∀l a,(a::l).Pairwise (· < ·)->a<=x->
 (∀ e∈a::l,e<=x->(∀ e'∈a::l,e'<=e\/x<e')->g e=g x)->((∀ e∈a::l,e<=x)->g x=[])->JB (jN (λ a b=>(⟨a,b,g a⟩:bR)) (a::l)) x=g x
 |[],a,_,hx,_,h2=>(h2 (λ e he=>by have:e=a:=by simpa using he
                                  subst this;exact hx)).symm
 |b::l,a,hp,hx,h1,h2=>by have hab:=(pairwise_cons.1 hp).1 b (by simp);rw[rJ,Ab];by_cases hb:x<b;rw[show (decide (a<=x)&&decide (x<b))=true by simp[hx,hb],aj];refine h1 a (by simp) hx λe he=>?_;rcases aI.1 he with rfl|he;exact .inl (Int.le_refl _);right;rcases aI.1 he with rfl|he;exact hb;have:=(pairwise_cons.1 (pairwise_cons.1 hp).2).1 e he;omega;rw[show (decide (a<=x)&&decide (x<b))=false by simp[hb],au];refine JD g x l b (pairwise_cons.1 hp).2 (by omega) (λ e he hex hc=>h1 e (eG _ he) hex λe' he'=>?_) λhall=>h2 λe he=>?_;rcases aI.1 he' with rfl|he';left;have:=(pairwise_cons.1 hp).1 e he;omega;exact hc e' he';rcases aI.1 he with rfl|he;exact hx;exact hall e he
theorem agc(g:Int->Y aR) es (hp:es.Pairwise (· < ·)) x
 (h1:∀e∈es,e<=x->(∀ e'∈es,e'<=e\/x<e')->g e=g x) (h2:(∀ e∈es,e<=x)->g x=[]) (h3:(∀ e∈es,x<e)->g x=[]):JB (jN (λ a b=>(⟨a,b,g a⟩:bR)) es) x=g x:=by
 cases es with
 |nil=>exact(h3 (by simp)).symm
 |cons a l=>
  by_cases hx:a<=x;exact JD g x l a hp hx h1 h2;have hall:∀e∈a::l,x<e:=by intro e he;rcases aI.1 he with rfl|he;omega;have:=(pairwise_cons.1 hp).1 e he;omega
  rw[JC g x _ hall,h3 hall]
theorem Yw{l:Y ax}{z:Int}:z∈iB l↔∃r∈l,z=r.x0\/z=r.x1:=by rw[iB,anj,List.mem_flatMap];simp
theorem Mk l:(iB l).Pairwise (· < ·):=afI _
theorem aaB{l:Y ax}{es:Y Int}(hes:∀r∈l,r.x0∈es/\r.x1∈es){e x:Int}(hex:e<=x)(hc:∀e'∈es,e'<=e\/x<e'):lC l e=lC l x:=by unfold lC;congr 1;refine List.filter_congr λr hr=>?_;have⟨h0,h1⟩:=hes r hr;have:=hc _ h0;have:=hc _ h1;rw[eZ,aT,aT,bf,bf,bf,bf];omega
theorem Pp{l:Y ax}{x:Int}(h:∀r∈l,x<r.x0\/r.x1<=x):lC l x=[]:=by unfold lC;rw[List.map_eq_nil_iff,List.filter_eq_nil_iff];intro r hr;have:=h r hr;rw[aT,bf,bf];omega
theorem JE l:Yv (bn l):=Po _ _ (Mk l)
theorem Ml l x:JB (bn l) x=dG l x:=by have hes:∀r∈l,r.x0∈iB l/\r.x1∈iB l:=λr hr=>⟨Yw.2 ⟨r,hr,.inl rfl⟩,Yw.2 ⟨r,hr,.inr rfl⟩⟩;refine agc (dG l) (iB l) (Mk l) x (λ e _ hex hc=>?_) (λ hall=>?_) (λ hall=>?_);unfold dG;rw[aaB hes hex hc];unfold dG;rw[Pp λr hr=>.inr (hall _ (hes r hr).2)];rfl;unfold dG;rw[Pp λr hr=>.inl (hall _ (hes r hr).1)];rfl
theorem alA{a:Y ax}(h:da a=true):tx a=(a,0):=by unfold da at h;rw[aT,bf,bf]at h;obtain⟨h1,h2⟩:=h;exact Prod.ext h2 h1
theorem vE{a:Y ax}(h:da a=true):(∀ r∈a,ft r=true)/\a.length<=200/\oZ (bn a)=a:=by have h:=alA h;unfold tx at h;split at h;rename_i hall;split at h;simp at h;split at h;simp at h;rename_i s8;injection h with h _;refine⟨all_eq_true.1 hall,?_,h⟩;rw[<- h];omega;simp at h
def ext(out:Y aR)(p:aR):Y aR:=
 match out.getLast? with
 |some q=>bif q.to==p.from_ then out.dropLast++[⟨q.from_,p.to⟩]else out++[p]
 |none=>[p]
def lR(a b:Y aR):Y Int:=yz ((a++b).flatMap λs=>[s.from_,s.to])
def vF(keep:Bool->Bool->Bool)(a b:Y aR):Y aR:=
 ((jN aR.mk (lR a b)).filter λp=>keep (jp a p.from_) (jp b p.from_)).foldl ext []
theorem aiH o (q p:aR):ext (o++[q]) p=bif q.to==p.from_ then o++[⟨q.from_,p.to⟩]else o++[q]++[p]:=by simp[ext]
def sM(keep:Bool->Bool->Bool)(a b:Y ax):Y bR:=
 jN (λ x x'=>(⟨x,x',vF keep (dG a x) (dG b x)⟩:bR)) (iB (a++b))
def vG(keep:Bool->Bool->Bool)(a b:Y ax):Y ax×Int:=
 if da a&&da b then(if (oZ (sM keep a b)).length>200 then([],6)else(oZ (sM keep a b),0))else([],1)
def Yx{α:Type}(a0:Y α)(a1:Int)(a2:(α×Int×Unit)->J Int):(Int×Int)->J ((Int×Int)⊕Int)
 |(v1,v2)=>(bif (decide (v1<v2))then(ck (decide (0<=1)&&decide (1<=IntKind.u64.bits)) ((bx a0 (i64.wrap ((IntKind.u64.wrap (i64.wrap (v1+v2)))/2 ^ (1:Int).toNat))).bind λx1=>(a2 (x1,a1,())).bind λr1=>(bif (decide (r1<0))then some (.inl (i64.wrap ((i64.wrap ((IntKind.u64.wrap (i64.wrap (v1+v2)))/2 ^ (1:Int).toNat))+1),v2))else some (.inl (v1,i64.wrap ((IntKind.u64.wrap (i64.wrap (v1+v2)))/2 ^ (1:Int).toNat))))))else some (.inr v1))
theorem agf{α:Type}{l:Y α}{key:Int}{Z:(α×Int×Unit)->J Int}(p:α->Bool)(f:α->Int)(hφ:∀x,Z (x,key,())=some (f x))(hf:∀x,decide (f x<0)=p x)
 (hm:∀i j (hj:j<l.length) (hij:i<j),p l[j]=true->p (l[i]'(by omega))=true) (hl:l.length<1099511627776):
 ∀(m i j n:Nat),j-i<=m->i<=j->j<=l.length->(∀ k (hk:k<i) (hkl:k<l.length),p l[k]=true)->(∀ k (hk:j<=k) (hkl:k<l.length),p l[k]=false)->m<n->
 ∃w:Nat,w<=l.length/\iter (Yx l key Z) n (i,j)=some (w:Int)/\(∀ k (hk:k<w) (hkl:k<l.length),p l[k]=true)/\∀k (hk:w<=k) (hkl:k<l.length),p l[k]=false:=by
 intro m
 induction m with
 |zero=>
  intro i j n hm0 hij hjl h1 h2 hn;obtain⟨n,rfl⟩:∃q,n=q+1:=⟨n-1,by omega⟩;have:i=j:=by omega
  subst this;exact⟨i,hjl,fP (by simp[Yx]),h1,h2⟩
 |succ m ih=>
  intro i j n hm0 hij hjl h1 h2 hn;obtain⟨n,rfl⟩:∃q,n=q+1:=⟨n-1,by omega⟩;by_cases hlt:i<j;have c:decide ((i:Int)<(j:Nat))=true:=by simpa using hlt
  have c1:(decide (0<=1)&&decide (1<=IntKind.u64.bits))=true:=rfl;have e:i64.wrap ((IntKind.u64.wrap (i64.wrap ((i:Nat)+(j:Nat))))/2 ^ (1:Int).toNat)=((i+j)/2:Nat):=by
   rw[asq (by omega),ab9 (by omega),show((((i+j:Nat):Int))/2 ^ (1:Int).toNat)=((i+j)/2:Nat)by
    rw[show (1:Int).toNat=1 from rfl,Int.pow_one];omega,Oy (by omega)]
  have hh:(i+j)/2<l.length:=by omega
  cases hp:p l[(i+j)/2]with
  |true=>
   have s:Yx l key Z (i,j)=some (.inl (((i+j)/2+1:Nat),j)):=(by simp only[Yx,c,aj,c1,e,aO hh,ai,hφ,hf,hp];rw[aL (by omega)]);rw[jP s];refine ih _ _ n (by omega) (by omega) hjl (λ k hk hkl=>?_) h2 (by omega);by_cases hk2:k<(i+j)/2;exact hm k _ hh hk2 hp;have:k=(i+j)/2:=(by omega);subst this;exact hp
  |false=>
   have s:Yx l key Z (i,j)=some (.inl (i,((i+j)/2:Nat))):=(by simp only[Yx,c,aj,c1,e,aO hh,ai,hφ,hf,hp,au]);rw[jP s];refine ih _ _ n (by omega) (by omega) (by omega) h1 (λ k hk hkl=>?_) (by omega);by_cases hk2:(i+j)/2<k;cases hpk:p l[k]with
   |false=>rfl
   |true=>have:=hm _ k hkl hk2 hpk;rw[hp]at this;cases this
   have:k=(i+j)/2:=(by omega);subst this;exact hp
  have:i=j:=by omega
  subst this;exact⟨i,hjl,fP (by simp[Yx]),h1,h2⟩
theorem anY l key (Z:(bR×Int×Unit)->J Int):mF l key Z=Yx l key Z:=by funext ⟨a,b⟩;rfl
theorem apG l key (Z:(aR×Int×Unit)->J Int):nO l key Z=Yx l key Z:=by funext ⟨a,b⟩;rfl
theorem Yy:∀{l:Y bR},Yv l->l.Pairwise (λ s t=>s.x1<=t.x0)/\∀s∈l,s.x0<s.x1
 |[],_=>⟨List.Pairwise.nil,by simp⟩
 |[s],h=>⟨by simp,λt ht=>by have:t=s:=by simpa using ht
                            subst this;exact h⟩
 |s::t::l,h=>by obtain⟨h1,h2,h3⟩:=h;have⟨p1,p2⟩:=Yy h3;refine⟨?_,?_⟩;rw[pairwise_cons];refine⟨λ u hu=>?_,p1⟩;rcases aI.1 hu with rfl|hu;omega;have:=(pairwise_cons.1 p1).1 u hu;have:=p2 t (by simp);omega;intro u hu;rcases aI.1 hu with rfl|hu;exact h1;exact p2 u hu
theorem MZ{x:Int}:∀{l:Y bR},(∀ s∈l,¬(s.x0<=x/\x<s.x1))->JB l x=[]
 |[],_=>rfl
 |s::l,h=>by have:=h s (by simp);rw[Ab,show(decide (s.x0<=x)&&decide (x<s.x1))=false by rw[Bool.and_eq_false_iff,fw,fw];omega,au];exact MZ λt ht=>h t (by simp[ht])
theorem acr{x:Int}:∀{l:Y bR}{w:Nat}(hw:w<l.length),(∀ k (hk:k<w),¬((l[k]'(by omega)).x0<=x/\x<(l[k]'(by omega)).x1))->l[w].x0<=x->x<l[w].x1->JB l x=l[w].column
 |[],w,hw,_,_,_=>by simp at hw
 |s::l,0,hw,_,h0,h1=>apF h0 h1
 |s::l,w+1,hw,hk,h0,h1=>by have hs:=hk 0 (by omega);simp at hs;rw[Ab,show(decide (s.x0<=x)&&decide (x<s.x1))=false by rw[Bool.and_eq_false_iff,fw,fw];omega,au];exact acr (by simpa using hw) (λ k hk'=>by have:=hk (k+1) (by omega);simpa using this) h0 h1
theorem agh{l:Y bR}{x:Int}(h:Yv l)(hl:l.length<1099511627776)(hn:l.length<n):Yn n l x=some (JB l x):=by
 have⟨a1,a2⟩:=Yy h;rw[List.pairwise_iff_getElem]at a1
 have run:=agf (l:=l) (key:=x) (Z:=λ(y1:bR×Int×Unit)=>xX y1.1 y1.2.1) (λ s=>decide (s.x1<=x)) (λ s=>if s.x1<=x then -1 else 1)
  (λ s=>by show xX s x=_;unfold xX;by_cases c:s.x1<=x<;>simp[c]) (λ s=>by by_cases c:s.x1<=x<;>simp[c])
  (λ i j hj hij hp=>by rw[bf]at hp |-;have:=a1 i j (by omega) hj hij;have:=a2 l[j] (getElem_mem _);omega) hl l.length 0 l.length n (by omega) (by omega) (aB _) (λ k hk=>by omega) (λ k hk hkl=>by omega) hn
 obtain⟨w,hw,e,h1,h2⟩:=run;unfold Yn jm;rw[anY];have e':iter (Yx l x λ(y1:bR×Int×Unit)=>xX y1.1 y1.2.1) n (0,(l.length:Nat))=some (w:Int):=e;rw[e'];simp only[ai];have an:∀b:Int,∃bb,((bif (decide (w<(l.length:Int)))then(bx l w).bind λx2=>(xX x2 x).bind λr2=>some (w,r2==b)else some (w,false)):J (Int×Bool))=some ((w:Int),bb):=by
  intro b;by_cases c:w<l.length;have d:decide ((w:Int)<l.length)=true:=by simpa using c
  rw[d];simp only[aj];rw[aO c,ai];unfold xX;cases decide (l[w].x1<=x)<;>exact⟨_,rfl⟩;have d:decide ((w:Int)<l.length)=false:=by simp;omega
  rw[d];exact⟨_,rfl⟩
 have⟨bb,hbb⟩:=an 0;rw[hbb,ai];simp only[];by_cases c:w<l.length;have d:decide ((w:Int)<l.length)=true:=by simpa using c
 simp only[d,aj,aO c,ai];have hx1:=h2 w (aB _) c;rw[fw]at hx1;by_cases c2:l[w].x0<=x;simp[c2];rw[acr c (λ k hk hh=>?_) c2 (by omega)];have:=h1 k hk (by omega);rw[bf]at this;omega;simp[c2];rw[MZ λs hs hh=>?_];obtain⟨k,hk,rfl⟩:=mem_iff_getElem.1 hs;rcases Nat.lt_trichotomy k w with E1|rfl|E1;have:=h1 k E1 hk;rw[bf]at this;omega;omega;have:=a1 w k c hk E1;have:=a2 l[w] (getElem_mem _);omega;have d:decide ((w:Int)<l.length)=false:=by simp;omega
 simp only[d,au,ai];rw[MZ λs hs hh=>?_];obtain⟨k,hk,rfl⟩:=mem_iff_getElem.1 hs;have:=h1 k (by omega) hk;rw[bf]at this;omega
theorem Pq{l:Y aR}{y:Int}(h:Can l)(hl:l.length<1099511627776)(hn:l.length<n):D7 n l y=some (jp l y):=by
 obtain⟨a1,a2⟩:=h;rw[List.pairwise_iff_getElem]at a1
 have run:=agf (l:=l) (key:=y) (Z:=λ(y1:aR×Int×Unit)=>mG y1.1 y1.2.1) (λ s=>decide (s.to<=y)) (λ s=>if s.to<=y then -1 else 1)
  (λ s=>by show mG s y=_;unfold mG;by_cases c:s.to<=y<;>simp[c]) (λ s=>by by_cases c:s.to<=y<;>simp[c])
  (λ i j hj hij hp=>by rw[bf]at hp |-;have:=a1 i j (by omega) hj hij;have:l[j].from_<l[j].to:=a2 l[j] (getElem_mem _);omega) hl l.length 0 l.length n (by omega) (by omega) (aB _) (λ k hk=>by omega) (λ k hk hkl=>by omega) hn
 obtain⟨w,hw,e,h1,h2⟩:=run;unfold D7 jL;rw[apG];have e':iter (Yx l y λ(y1:aR×Int×Unit)=>mG y1.1 y1.2.1) n (0,(l.length:Nat))=some (w:Int):=e;rw[e'];simp only[ai];have an:∀b:Int,∃bb,((bif (decide (w<(l.length:Int)))then(bx l w).bind λx2=>(mG x2 y).bind λr2=>some (w,r2==b)else some (w,false)):J (Int×Bool))=some ((w:Int),bb):=by
  intro b;by_cases c:w<l.length;have d:decide ((w:Int)<l.length)=true:=by simpa using c
  rw[d];simp only[aj];rw[aO c,ai];unfold mG;cases decide (l[w].to<=y)<;>exact⟨_,rfl⟩;have d:decide ((w:Int)<l.length)=false:=by simp;omega
  rw[d];exact⟨_,rfl⟩
 have⟨bb,hbb⟩:=an 0;rw[hbb,ai];simp only[];by_cases c:w<l.length;have d:decide ((w:Int)<l.length)=true:=by simpa using c
 simp only[d,aj,aO c,ai];have hx1:=h2 w (aB _) c;rw[fw]at hx1;congr 1;rw[eZ,bf,Pj];constructor;exact λhf=>⟨l[w],getElem_mem _,hf,by omega⟩;rintro⟨s,hs,g1,g2⟩;obtain⟨k,hk,rfl⟩:=mem_iff_getElem.1 hs;rcases Nat.lt_trichotomy k w with E1|rfl|E1;have:=h1 k E1 hk;rw[bf]at this;omega;exact g1;have:=a1 w k c hk E1;omega;have d:decide ((w:Int)<l.length)=false:=by simp;omega
 simp only[d,au];congr 1;symm;cases hh:jp l y with
 |false=>rfl
 |true=>
  obtain⟨s,hs,g1,g2⟩:=(Pj _ _).1 hh;obtain⟨k,hk,rfl⟩:=mem_iff_getElem.1 hs;have:=h1 k (by omega) hk;rw[bf]at this;omega
theorem Ps{l:Y (List aR)}(hf:l.flatten.length<1099511627776)(hl:l.length<1099511627776)(hn:l.length<n):zV n l=some l.flatten:=OA (aR.mk 0 0) (b:=16) hf (by omega) hl hn
theorem Pv(l:Y aR):(l.flatMap λr=>[r.from_,r.to]).length=2*l.length:=by
 induction l with
 |nil=>rfl
 |cons x l ih=>simp[ih];omega
theorem UA{l:Y aR}(hl:l.length<10995116277)(hn:l.length<n):iter (xY l) n (0,[])=some (l.flatMap λr=>[r.from_,r.to]):=by
 have:=dQ (l:=l) (step:=xY l) (λ i s=>(i,s)) (λ r s=>s++[r.from_,r.to]) (λ s=>s) (λ i s=>s.length<=2*i)
  (λ i hi s hs=>?_) (λ s hs=>by simp[xY]) n hn [] (aB _)
 rw[fm]at this;rw[this];have gen:∀(ys:Y aR) s,ys.foldl (λ s r=>s++[r.from_,r.to]) s=s++ys.flatMap λr=>[r.from_,r.to]:=by
  intro ys
  induction ys with
  |nil=>intro s;simp
  |cons y ys ih=>intro s;simp[ih]
 congr 1;simpa using gen l [];have hi':decide ((i:Int)<(l.length:Nat))=true:=by simpa using hi
 have ap:bF s.length s.length (sub ([l[i].from_,l[i].to]:Y Int) 0 2).length 2 8=true:=bV (n:=2) (by omega) (by simp[maxLen];omega);simp only[xY,hi',aj,aV hi,bJ hi,ai,ap,dV,aH];refine⟨?_,by simp;omega⟩;rw[aL (by omega)];rfl
theorem Yz{α G:Type}(p:α->Bool)(f:G->α->G):∀(l:Y α)(s:G),(l.filter p).foldl f s=l.foldl (λ s x=>bif p x then f s x else s) s
 |[],s=>rfl
 |x::l,s=>by
  rw[List.filter_cons,foldl_cons];cases h:p x with
  |true|false=>simp;exact Yz p f l _
theorem YA out (p:aR):(ext out p).length<=out.length+1:=by
 unfold ext;cases out.getLast? with
 |none=>simp
 |some q=>simp;cases q.to==p.from_<;>simp<;>omega
theorem YB(a b:Y aR):(lR a b).length<=2*(a.length+b.length):=by have h:=pV (kG (λ a b=>decide (a<b)) ((a++b).flatMap λr=>[r.from_,r.to]));rw[cZ,Pv,eU]at h;exact h
theorem aaC(keep:Bool->Bool->Bool)(a b:Y aR):(vF keep a b).length<=2*(a.length+b.length):=by
 have gen:∀(ys out:Y aR),(ys.foldl ext out).length<=out.length+ys.length:=by
  intro ys
  induction ys with
  |nil=>intro out;simp
  |cons y ys ih=>
   intro out;simp;have:=ih (ext out y);have:=YA out y;omega
 have h:=gen ((jN aR.mk (lR a b)).filter λp=>keep (jp a p.from_) (jp b p.from_)) [];have h2:=length_filter_le (λ p=>keep (jp a p.from_) (jp b p.from_)) (jN aR.mk (lR a b));have h3:=(tQ aR.mk (lR a b)).1;have h4:=YB a b;simp at h;unfold vF;omega
theorem agi{keep:Bool->Bool->Bool}{Z:(Bool×Bool×Unit)->J Bool}(hφ:∀p q,Z (p,q,())=some (keep p q)){a b:Y aR}(ha:Can a)(hb:Can b)(hl:a.length+b.length<1099511627)(hn:2*(a.length+b.length)+2<n):Jr n a b Z=some (vF keep a b):=by
 have fl:[a,b].flatten=a++b:=by simp
 have s2:(sub ([a,b]:Y (List aR)) 0 2)=[a,b]:=rfl;have q2:aE ([a,b]:Y (List aR)).length 2=true:=rfl;have hys:=YB a b;have hfl:((a++b).flatMap λr=>[r.from_,r.to]).length=2*(a.length+b.length):=by rw[Pv,eU]
 unfold Jr;rw[s2,q2];simp only[aj];rw[Ps (by rw[fl,eU];omega) (by simp) (by simp;omega),fl];simp only[ai,length_nil,aH,aj,UA (l:=a++b) (n:=n) (by rw[eU];omega) (by rw[eU];omega)];rw[kY (by rw[hfl];omega) (by rw[hfl];omega)];simp only[ai,cZ,aH,aj];rw[ni (by rw[cZ,hfl];omega) (by rw[cZ,hfl];omega)];simp only[ai];have hE:iU (kG px ((a++b).flatMap λr=>[r.from_,r.to]))=lR a b:=rfl;rw[hE];have⟨p1,p2⟩:=tQ aR.mk (lR a b);have key:iter (xZ n a b Z ((),lR a b)) n ((1:Int),([]:Y aR))=some (vF keep a b):=by
  have:=dQ (l:=jN aR.mk (lR a b)) (step:=xZ n a b Z ((),lR a b)) (λ i (s:List aR)=>(((i+1:Nat):Int),s)) (λ p s=>bif keep (jp a p.from_) (jp b p.from_)then ext s p else s) (λ s=>s) (λ i s=>s.length<=i)
   (λ i hi s hs=>?_) (λ s hs=>?_) n (by omega) [] (aB _)
  rw[show ((0+1:Nat):Int)=1 from rfl]at this;rw[this,vF,Yz];have hi2:i+1<(lR a b).length:=by omega
  have hi1:i<(lR a b).length:=by omega
  have d:decide (((i+1:Nat):Int)<(((lR a b).length:Nat):Int))=true:=by simp;omega
  have wp:i64.wrap ((i+1:Nat)-1)=(i:Nat):=by rw[nU (by omega) (by omega)];rfl
  have pe:(jN aR.mk (lR a b))[i]=aR.mk (lR a b)[i] (lR a b)[i+1]:=p2 i hi2 hi;rw[pe];have lx:=YA s (aR.mk (lR a b)[i] (lR a b)[i+1]);have ap:bF s.length s.length (sub ([aR.mk (lR a b)[i] (lR a b)[i+1]]:Y aR) 0 1).length 1 16=true:=bV (n:=1) (by omega) (by simp[maxLen];omega);have sb:(sub ([aR.mk (lR a b)[i] (lR a b)[i+1]]:Y aR) 0 1)=[aR.mk (lR a b)[i] (lR a b)[i+1]]:=rfl;refine⟨?_,by cases keep (jp a (lR a b)[i]) (jp b (lR a b)[i])<;>simp<;>omega⟩;simp only[xZ,d,aj,wp,aV hi1,bJ hi1,ai,Pq (n:=n) ha (show a.length<1099511627776 by omega) (show a.length<n by omega),Pq (n:=n) hb (show b.length<1099511627776 by omega) (show b.length<n by omega),hφ];cases hk:keep (jp a (lR a b)[i]) (jp b (lR a b)[i])with
  |false=>
   simp only[Bool.not_false,aj,aH,ai,au];rw[aL (by omega)]
  |true=>
   simp only[Bool.not_true,au,aj];rcases List.eq_nil_or_concat s with rfl|⟨s0,q,LO⟩;have d0:decide ((([]:Y aR).length:Nat)>0)=false:=(by simp);simp only[d0,au,ai,aV hi2,bJ hi2,aj,ap,dV,aH];rw[aL (by omega)];rfl;rw[List.concat_eq_append]at LO;subst LO;have d0:decide (((((s0++[q]).length:Nat):Int))>0)=true:=(by simp<;>omega);have DG:(s0++[q]).length=s0.length+1:=(by simp);have wq:i64.wrap (((s0++[q]).length:Nat)-1)=(s0.length:Nat):=(by rw[nU (by simp) (by omega),DG];rfl);have Zs:cV (s0.length:Nat) (s0++[q]).length=true:=aV (by omega);have g:bx (s0++[q]) ((0:Nat)+(s0.length:Nat))=some q:=(by rw[Fj];simp);have z:(((0:Nat):Int)+(s0.length:Nat)).toNat=s0.length:=(by simp);have st:(s0++[q]).set s0.length (aR.mk q.from_ (lR a b)[i+1])=s0++[⟨q.from_,(lR a b)[i+1]⟩]:=(by simp);simp only[d0,aj,wq,Zs,g,ai,aiH];cases hj:q.to==(lR a b)[i]with
   |true=>
    simp only[aj,aV hi2,bJ hi2,ai,z,st];have e:aE (s0++[q]).length (s0++[(⟨q.from_,(lR a b)[i+1]⟩:aR)]).length=true:=(by simp);simp only[e,aj,ai,aH];rw[aL (by omega)]
   |false=>
    rw[sb]at ap;simp only[au,aV hi2,bJ hi2,ai,aj,sb,ap,dV,aH];rw[aL (by omega)]
  have d:decide ((((jN aR.mk (lR a b)).length+1:Nat):Int)<((lR a b).length:Nat))=false:=by simp;omega
  simp only[xZ,d,au,aH,aj]
 rw[key];simp
theorem Ed(keep:Bool->Bool->Bool)(a b:Y ax):sM keep a b=(bn (a++b)).map λs=>⟨s.x0,s.x1,vF keep (dG a s.x0) (dG b s.x0)⟩:=by
 have gen:∀es:Y Int,jN (λ x x'=>(⟨x,x',vF keep (dG a x) (dG b x)⟩:bR)) es=(jN (λ x x'=>(⟨x,x',dG (a++b) x⟩:bR)) es).map λs=>⟨s.x0,s.x1,vF keep (dG a s.x0) (dG b s.x0)⟩:=by
  intro es
  match es with
  |[]|[_]=>rfl
  |x::y::l=>
   rw[rJ,rJ,bq];congr 1;have:∀es:Y Int,jN (λ x x'=>(⟨x,x',vF keep (dG a x) (dG b x)⟩:bR)) es=(jN (λ x x'=>(⟨x,x',dG (a++b) x⟩:bR)) es).map λs=>⟨s.x0,s.x1,vF keep (dG a s.x0) (dG b s.x0)⟩:=by
    intro es
    induction es with
    |nil=>rfl
    |cons x es ih=>
     cases es with
     |nil=>rfl
     |cons y es=>rw[rJ,rJ,bq,ih]
   exact this (y::l)
 exact gen (iB (a++b))
theorem aaD{keep:Bool->Bool->Bool}{Z:(Bool×Bool×Unit)->J Bool}(hφ:∀p q,Z (p,q,())=some (keep p q)){a b:Y ax}(ha:a.length<1099511627776)(hb:b.length<1099511627776)(hna:a.length<n)(hnb:b.length<n)(hn:1000<=n):FD n a b Z=some (vG keep a b):=by
 unfold FD vG;rw[jr ha hna hn,ai];cases hra:da a with
 |false=>rfl
 |true=>
  rw[jr hb hnb hn];simp;cases hrb:da b with
  |false=>rfl
  |true=>
   have⟨a1,a2,_⟩:=vE hra;have⟨b1,b2,_⟩:=vE hrb;have fa:[a].flatten=a:=(by simp);have fb:[b].flatten=b:=(by simp);have fab:[a,b].flatten=a++b:=(by simp);have hab:∀r∈a++b,ft r=true:=λr hr=>(by rcases bI.1 hr with hr|hr;exact a1 r hr;exact b1 r hr);have sa:pY n [a]=some (bn a):=by
    have:=za (n:=n) (ls:=[a]) (by rw[fa];exact a1) (by rw[fa];omega) (by simp) (by rw[fa];omega) (by simp;omega)
    rwa [fa]at this
   have sb:pY n [b]=some (bn b):=by
    have:=za (n:=n) (ls:=[b]) (by rw[fb];exact b1) (by rw[fb];omega) (by simp) (by rw[fb];omega) (by simp;omega)
    rwa [fb]at this
   have lab:(a++b).length=a.length+b.length:=eU;have sab:pY n [a,b]=some (bn (a++b)):=by
    have:=za (n:=n) (ls:=[a,b]) (by rw[fab];exact hab) (by rw[fab,lab];omega) (by simp) (by rw[fab,lab];omega) (by simp;omega)
    rwa [fab]at this
   have e1:(sub ([a]:Y (List ax)) 0 1)=[a]:=rfl;have e2:(sub ([b]:Y (List ax)) 0 1)=[b]:=rfl;have e3:(sub ([a,b]:Y (List ax)) 0 2)=[a,b]:=rfl;have q1:aE ([a]:Y (List ax)).length 1=true:=rfl;have q2:aE ([b]:Y (List ax)).length 1=true:=rfl;have q3:aE ([a,b]:Y (List ax)).length 2=true:=rfl;have la:=vD a;have lb:=vD b;have lS:=vD (a++b);rw[lab]at lS;have mc:∀x,(dG a x).length<=200/\(dG b x).length<=200:=λx=>⟨Nat.le_trans (z8 a x) a2,Nat.le_trans (z8 b x) b2⟩;have lm:∀x,(vF keep (dG a x) (dG b x)).length<=800:=λx=>(by have:=aaC keep (dG a x) (dG b x);have:=mc x;omega);have key:iter (sH n Z (bn a) (bn b) (bn (a++b))) n ((0:Int),bn (a++b))=some (sM keep a b):=by
    have:=fV (step:=sH n Z (bn a) (bn b) (bn (a++b))) (λ i=>((i:Int),(sM keep a b).take i++(bn (a++b)).drop i)) (bn (a++b)).length (sM keep a b) (λ i hi=>?_) ?_ n (by omega);simpa using this;have d:decide ((i:Int)<(((bn (a++b)).length:Nat):Int))=true:=(by simpa using hi);have lc:(sM keep a b).length=(bn (a++b)).length:=(by rw[Ed,length_map]);have lt:((sM keep a b).take i).length=i:=(by rw[length_take];omega);have hd:(bn (a++b)).drop i=(bn (a++b))[i]::(bn (a++b)).drop (i+1):=List.drop_eq_getElem_cons hi;have g:bx ((sM keep a b).take i++(bn (a++b)).drop i) (((0:Nat):Int)+(i:Nat))=some (bn (a++b))[i]:=(by rw[Fj,qj (by omega),lt,hd];simp);have st:∀s:bR,((sM keep a b).take i++(bn (a++b)).drop i).set i s=(sM keep a b).take i++s::(bn (a++b)).drop (i+1):=(by intro s;rw[List.set_append_right _ _ (by omega),lt,hd,Nat.sub_self];rfl);have z:(((0:Nat):Int)+(i:Nat)).toNat=i:=(by simp);have tk:(sM keep a b).take (i+1)=(sM keep a b).take i++[⟨(bn (a++b))[i].x0,(bn (a++b))[i].x1,vF keep (dG a (bn (a++b))[i].x0) (dG b (bn (a++b))[i].x0)⟩]:=(by rw[iY (by omega)];congr 2;simp[Ed]);have hm:=mc (bn (a++b))[i].x0;have mg:Jr n (dG a (bn (a++b))[i].x0) (dG b (bn (a++b))[i].x0) Z=some (vF keep (dG a (bn (a++b))[i].x0) (dG b (bn (a++b))[i].x0)):=
     agi hφ (Pn a1 _).1 (Pn b1 _).1 (by omega) (by omega)
    have at1:Yn n (bn a) (bn (a++b))[i].x0=some (dG a (bn (a++b))[i].x0):=(by rw[agh (JE a) (by omega) (by omega),Ml]);have at2:Yn n (bn b) (bn (a++b))[i].x0=some (dG b (bn (a++b))[i].x0):=(by rw[agh (JE b) (by omega) (by omega),Ml]);simp only[sH,d,aj,aV hi,g,ai,dP,at1,at2,mg,aH,z,st];rw[aL (by omega),tk,aU];rfl;have lc:(sM keep a b).length=(bn (a++b)).length:=(by rw[Ed,length_map]);have d:decide (((bn (a++b)).length:Nat)<((bn (a++b)).length:Nat))=false:=(by simp);simp[sH,d,au,List.drop_length,List.append_nil];rw[take_of_length_le (by omega)]
   have lc:(sM keep a b).length=(bn (a++b)).length:=(by rw[Ed,length_map]);have cc:∀s∈sM keep a b,s.column.length<=800:=(by intro s hs;rw[Ed,mem_map]at hs;obtain⟨t,_,rfl⟩:=hs;exact lm _);have sl:sub (sM keep a b) 0 (bn (a++b)).length=sM keep a b:=(by rw[<- lc,dP]);simp[Bool.not_true,au,e1,e2,e3,q1,q2,q3,aj,sa,sb,sab,ai,dP,aH,key,sl,lc];rw[TW (b:=800) (by omega) (by omega) cc (by omega) (by omega)];simp[ai,zQ,if_true];by_cases s8:(oZ (sM keep a b)).length>200;have:decide (((oZ (sM keep a b)).length:Int)>200)=true:=(by simp;omega);simp[this,aj,ai,s8,if_true];have:decide (((oZ (sM keep a b)).length:Int)>200)=false:=(by simp;omega);simp[this,au,ai,s8,if_false]
theorem adS{a b:Y ax}(ha:a.length<1099511627776)(hb:b.length<1099511627776)(hna:a.length<n)(hnb:b.length<n)(hn:1000<=n):KI n a b=some (vG (λ p q=>p&&q) a b):=by unfold KI;rw[aaD (keep:=λp q=>p&&q) (λ p q=>by show yV p q=_;unfold yV;cases p<;>rfl) ha hb hna hnb hn];rfl
theorem adT{keep:Bool->Bool->Bool}(a b:Y ax):(vG keep a b).1.length<=200:=by unfold vG;split;split;simp;show(oZ _).length<=200;omega;simp
def TY(r:ax):Int:=(r.x1-r.x0)*(r.y1-r.y0)
def M0(l:Y ax):Int:=(l.map TY).sum
theorem JF{r:ax}(h:ft r=true):0<=TY r/\TY r<=1099511627776:=by simp at h;unfold TY;refine⟨Int.mul_nonneg (by omega) (by omega),?_⟩;have:=Int.mul_le_mul (show r.x1-r.x0<=1048576 by omega) (show r.y1-r.y0<=1048576 by omega) (by omega) (by omega);omega
theorem YC:∀{l:Y ax},(∀ r∈l,ft r=true)->0<=M0 l/\M0 l<=1099511627776*l.length
 |[],_=>by simp[M0]
 |r::l,h=>by
  have h1:=JF (h r List.mem_cons_self);have h2:=YC (l:=l) λq hq=>h q (eG _ hq);have e:M0 (r::l)=TY r+M0 l:=rfl;rw[e,d9]
  push_cast
  omega
theorem JG{l:Y ax}{Z:(ax×Unit)->J Bool}(p:ax->Bool)(h:∀x∈l,Z (x,())=some (p x))(hl:l.length<1099511627776)(hn:l.length<n):vv n l Z=some (yP p l):=fU p h hl hn
theorem um{l:Y ax}{Z:(ax×Unit)->J Bool}(p:ax->Bool)(h:∀x∈l,Z (x,())=some (p x))(hl:l.length<1099511627776)(hn:l.length<n):jq n l Z=some (l.any p):=by unfold jq;rw[JG p h hl hn,ai,sS]
theorem acs:∀(l:Y Int) x,(l++[x]).sum=l.sum+x
 |[],x=>by simp
 |a::l,x=>by rw[List.cons_append,List.sum_cons,List.sum_cons,acs l x];omega
theorem alB{r:ax}(h:ft r=true):zT r=some (TY r):=by have hb:=JF h;unfold zT zq;rw[jM,h];simp;simp at h;unfold TY at*;rw[bP (x:=r.x1-r.x0),bP (x:=r.y1-r.y0),bP (by omega) (by omega)]
theorem YD{a:Y ax}(ha:a.length<=900)(hn:1000<=n):O6 n a=some (bif da a then M0 a else 0):=by
 unfold O6;rw[jr (by omega) (by omega) hn];simp;cases hr:da a with
 |false=>rfl
 |true=>
  have ok:=(vE hr).1;have:=fV (step:=Fz a) (λ i=>(M0 (a.take i),(i:Nat))) a.length (M0 a) (λ i hi=>?_) ?_ n (by omega);have e:M0 (a.take 0)=0:=rfl;rw[e,fm]at this;simp[this];have c:decide ((i:Int)<a.length)=true:=by simpa using hi
  have h1:=YC (l:=a.take i) λr hr=>ok r (List.mem_of_mem_take hr);rw[length_take]at h1;have h2:=JF (ok _ (getElem_mem hi));have e:M0 (a.take (i+1))=M0 (a.take i)+TY a[i]:=by rw[iY hi];unfold M0;rw[map_append];exact acs _ _
  simp only[Fz,c,aj,aO hi,ai,alB (ok _ (getElem_mem hi))];rw[aL (by omega),bP (by omega) (by omega),e];simp[Fz]
theorem Ru{α:Type}(p:α->Bool) l:(match nM p l with|some _=>true|none=>false)=l.any p:=by have:=jW p l;rw[<- this];cases nM p l<;>rfl
def Ts(p q:ax):Bool:=decide (max p.x0 q.x0<min p.x1 q.x1)&&decide (max p.y0 q.y0<min p.y1 q.y1)
def PF(a b:Y ax):Bool:=a.any λp=>b.any λq=>Ts p q
theorem aiI{a b:Y ax}(ha:a.length<1099511627776)(hb:b.length<1099511627776)(hna:a.length<n)(hnb:b.length<n):VY n a b=some (PF a b):=by
 unfold VY PF;rw[um (λ p=>b.any λq=>Ts p q) (λ p _=>?_) ha hna];rfl;show FK n p b=_;unfold FK;rw[um (λ q=>Ts p q) (λ q _=>?_) hb hnb];rfl;show xB q p=_;unfold xB Ts;have e1:max q.x0 p.x0=max p.x0 q.x0:=by omega
 have e2:min q.x1 p.x1=min p.x1 q.x1:=by omega
 have e3:max q.y0 p.y0=max p.y0 q.y0:=by omega
 have e4:min q.y1 p.y1=min p.y1 q.y1:=by omega
 first
  |(cases decide (max p.x0 q.x0<min p.x1 q.x1)<;>rfl)
  |(rw [e1,e2,e3,e4];cases decide (max p.x0 q.x0<min p.x1 q.x1)<;>rfl)
theorem aiJ{a b:Y ax}(hl:a.length<1099511627776)(hn:a.length<n):VX n a b=some (decide (a=b)):=by unfold VX;rw[Ea hl hn];rfl
abbrev yn(a b:ax):Bool:=decide (a.y0<b.y0)
theorem ako:Go.Sort.SWO yn where
 irrefl x:=by simp[yn]
 trans x y z h1 h2:=by simp only[yn,bf]at *;omega
 ntrans x y z h1 h2:=by simp only[yn,fw]at *;omega
instance:Inhabited ax:=⟨ax.mk 0 0 0 0⟩
theorem K3{l:Y ax}{Z:(ax×ax×Unit)->J Int}(f:ax->ax->Int)(hφ:∀x y,Z (x,y,())=some (f x y))(hf:∀x y,decide (f x y<0)=yn x y)(hl:l.length<1099511627776)(_:l.length<n):wM n l Z=some (iP yn l):=
 afZ f hφ hf ako hl
structure asu(R:List bR):Prop where
 runs:Runs R
 len:R.length<=200
 col:∀s∈R,Can s.column/\∀q∈s.column,0<=q.from_/\q.from_<q.to/\q.to<=1048576
 xs:∀s∈R,0<=s.x0/\s.x0<s.x1/\s.x1<=1048576
 Cd:(R.flatMap λs=>s.column.map (·.from_)).length<=200
theorem aiK(p:Nat->Bool)(N:Nat):(nM p (List.range N)=none->(List.range N).any p=false)/\(∀ i,nM p (List.range N)=some i->(List.range N).any p=true):=by refine⟨λ h=>?_,λi h=>?_⟩;rw[<- jW,h];rfl;rw[<- jW,h];rfl
theorem JH{W O:Type}{step:Int->J (Int⊕(W⊕O))}(N:Nat)(p:Nat->Bool)(w:W)(o:O)
 (h:∀i,i<N->step i=some (bif p i then .inr (.inr o)else .inl (i+1:Nat)))
 (hend:step N=some (.inr (.inl w))) (n:Nat) (hn:N<n):iter step n 0=some (bif (List.range N).any p then .inr o else .inl w):=by
 have:=kI (l:=List.range N) (step:=step) (λ i=>(i:Nat)) p w (λ _=>o) (λ i hi=>by rw[List.length_range]at hi;rw[List.getElem_range];exact h i hi) (by rw[List.length_range];exact hend) n (by rw[List.length_range];exact hn);rw[fm]at this;rw[this];have⟨r1,r2⟩:=aiK p N;cases hf:nM p (List.range N)with
 |none=>rw[r1 hf];rfl
 |some i=>rw[r2 i hf];rfl
theorem JI{p:Y eD}(hl:p.length<=1000)(hn:2000<=n):iter (rq n p (gF p)) n 0=some (bif (List.range p.length).any (On p)then .inr false else .inl ()):=by
 refine JH p.length (On p) () false (λ i hi=>?_) ?_ n (by omega);have nz:((p.length:Int) !=0)=true:=by simp;intro h;rw[h]at hi;simp at hi
 have md:(i+1)%p.length<p.length:=Nat.mod_lt _ (by omega);have w:i64.wrap (i+1)=(i+1:Nat):=aL (by omega);have g1:bx (gF p) ((0:Nat)+(i:Nat))=some (jv p i):=by rw[bJ (by rw[dY];exact hi),Aa]
 have g2:bx (gF p) ((0:Nat)+((i+1)%p.length:Nat))=some (jv p ((i+1)%p.length)):=by rw[bJ (by rw[dY];exact md),Aa]
 obtain⟨r,hr1,hr2⟩:=MX (n:=n) (rK p 0) (rK p i) (by omega);have g3:bx p 0=some (rK p 0):=by rw[aj3 (by omega),<- V6]
 have g4:bx p (i:Nat)=some (rK p i):=by rw[aO hi,<- V6]
 have dz:decide ((i:Int)>0)=decide (0<i):=by rw[eZ];simp
 have pt:eD.mk (jv p i).mT (jv p i).rj=rK p i:=rfl;simp only[rq,dY,cK hi,aj,aV hi,g1,g2,ai,nz,w,acp,aV md,pt,Pm,ow,FT,g3,g4,hr1,hr2,dz,Option.map_some];unfold On;generalize V7 (rK p i)=b1;generalize (((jv p i).mT==(jv p i).np)==((jv p i).rj==(jv p i).xc))=b2;generalize (xi (jv p i)==xi (jv p ((i+1)%p.length)))=b3;generalize decide (0<i)=b4;generalize V8 (rK p 0) (rK p i)=b5;cases b1<;>cases b2<;>cases b3<;>cases b4<;>cases b5<;>rfl;simp[rq,dY]
theorem JJ{p:Y eD}(hl:p.length<=1000)(hn:2000<=n){i:Nat}(hi:i<p.length):
 iter (je (gF p) (i:Nat)) n ((i+2:Nat))=some (bif (List.range p.length).any λk=>decide (i+2<=k)&&Uz p i k then .inr (.inr (.inr false))else .inl ()):=by
 have st:∀k,k<p.length->je (gF p) (i:Nat) (k:Nat)=some (bif Uz p i k then .inr (.inr (.inr (.inr false)))else .inl (k+1:Nat)):=by
  intro k hk;have g1:bx (gF p) ((0:Nat)+(i:Nat))=some (jv p i):=by rw[bJ (by rw[dY];exact hi),Aa]
  have g2:bx (gF p) ((0:Nat)+(k:Nat))=some (jv p k):=by rw[bJ (by rw[dY];exact hk),Aa]
  have w:i64.wrap (i64.wrap ((i:Nat)+(p.length:Nat))-(k:Nat))=(i+p.length-k:Nat):=by rw[bP (x:=(i:Nat)+(p.length:Nat)),bP (by omega) (by omega)];omega
  have dz:decide (((i+p.length-k:Nat):Int)>1)=decide (i+p.length-k>1):=by rw[eZ,bf,bf];omega
  simp only[je,dY,cK hk,aj,aV hi,aV hk,g1,g2,ai,w,dz,Ec,FT,Option.map_some,aZ k];unfold Uz;cases decide (i+p.length-k>1)<;>cases VV (jv p i) (jv p k)<;>rfl
 have main:∀m k,k+m=p.length->∀f,m<f->iter (je (gF p) (i:Nat)) f (k:Nat)=some (bif (List.range p.length).any λj=>decide (k<=j)&&Uz p i j then .inr (.inr (.inr false))else .inl ()):=by
  intro m
  induction m with
  |zero=>
   intro k hk f hf;obtain⟨f,rfl⟩:∃g,f=g+1:=⟨f-1,by omega⟩;have:k=p.length:=(by omega);subst this;have e:((List.range p.length).any λj=>decide (p.length<=j)&&Uz p i j)=false:=(by rw[Bool.eq_false_iff];intro h;rw[any_eq_true]at h;obtain⟨j,h1,h2⟩:=h;rw[List.mem_range]at h1;simp at h2;omega);rw[e];refine fP ?_;simp[je,dY]
  |succ m ih=>
   intro k hk f hf;obtain⟨f,rfl⟩:∃g,f=g+1:=⟨f-1,by omega⟩;have hkl:k<p.length:=(by omega);have h1:=st k hkl;cases hb:Uz p i k with
   |true=>
    rw[hb]at h1;have e:((List.range p.length).any λj=>decide (k<=j)&&Uz p i j)=true:=(by rw[any_eq_true];exact⟨k,List.mem_range.2 hkl,by simp[hb]⟩);rw[e];exact fP h1
   |false=>
    rw[hb]at h1;rw[jP h1,ih (k+1) (by omega) f (by omega)];congr 2;rw[eZ,any_eq_true,any_eq_true];constructor;rintro⟨j,j1,j2⟩;simp at j2;exact⟨j,j1,by simp;exact⟨by omega,j2.2⟩⟩;rintro⟨j,j1,j2⟩;simp at j2;refine⟨j,j1,?_⟩;simp;refine⟨?_,j2.2⟩;rcases Nat.lt_or_ge k j with h|h;omega;have:j=k:=(by omega);subst this;rw[hb]at j2;simp at j2
 by_cases h2:i+2<=p.length;exact main (p.length-(i+2)) (i+2) (by omega) n (by omega);obtain⟨n,rfl⟩:∃g,n=g+1:=⟨n-1,by omega⟩;have e:((List.range p.length).any λj=>decide (i+2<=j)&&Uz p i j)=false:=by rw[Bool.eq_false_iff];intro h;rw[any_eq_true]at h;obtain⟨j,h1,h2⟩:=h;rw[List.mem_range]at h1;simp at h2;omega
 rw[e];have d:decide (((i+2:Nat):Int)<(p.length:Nat))=false:=by rw[fw];omega
 refine fP ?_;simp only[je,dY,d,au]
theorem JK{p:Y eD}(hl:p.length<=1000)(hn:2000<=n):iter (ru n (gF p)) n 0=some (bif (List.range p.length).any λi=>(List.range p.length).any λk=>decide (i+2<=k)&&Uz p i k then .inr false else .inl ()):=by
 refine JH p.length _ () false (λ i hi=>?_) ?_ n (by omega);have w2:i64.wrap (i+2)=(i+2:Nat):=by rw[bP (by omega) (by omega)];omega
 simp only[ru,dY,cK hi,aj,w2,JJ hl hn hi,aZ i];cases (List.range p.length).any λk=>decide (i+2<=k)&&Uz p i k<;>rfl;simp[ru,dY]
theorem Rv p (hn:2000<=n):xu n p=some (Rt p):=by
 unfold xu Rt;by_cases h4:p.length<4;have d1:decide ((p.length:Int)<4)=true:=by simp;omega
 have d2:decide (4<=p.length)=false:=by simp;omega
 rw[d1,d2];rfl;have d1:decide ((p.length:Int)<4)=false:=by simp;omega
 have d2:decide (4<=p.length)=true:=by simp;omega
 by_cases h60:p.length>60;have d3:decide ((p.length:Int)>60)=true:=by simp;omega
 have d4:decide (p.length<=60)=false:=by simp;omega
 rw[d1,d2,d3,d4];rfl;have d3:decide ((p.length:Int)>60)=false:=by simp;omega
 have d4:decide (p.length<=60)=true:=by simp;omega
 have g:bx (gF p) ((0:Nat)+0)=some (jv p 0):=by have:=bJ (l:=gF p) (i:=0) (by rw[dY];omega);rw[Aa]at this;exact this
 have i0:cV 0 (gF p).length=true:=by have:=aV (i:=0) (n:=(gF p).length) (by rw[dY];omega);simpa using this
 rw[d1,d2,d3,d4];simp only[au,ai,BG (n:=n) (p:=p) (by omega) (by omega),JI (n:=n) (p:=p) (by omega) hn,Bool.true_and];cases (List.range p.length).any (On p)with
 |true=>rfl
 |false=>
  simp only[au,gG,JK (n:=n) (p:=p) (by omega) hn];cases (List.range p.length).any λi=>(List.range p.length).any λk=>decide (i+2<=k)&&Uz p i k with
  |true=>rfl
  |false=>
   simp only[au,gG,i0,aj,g,ai,ow];rfl
def Co(p:Y eD)(x:Int):Y Int:=((gF p).filter λs=>!xi s&&(decide (min s.mT s.np<=x)&&decide (x<max s.mT s.np))).map (·.rj)
def GA(x0 x1:Int):Y Int->Y ax
 |a::b::l=>⟨x0,a,x1,b⟩::GA x0 x1 l
 |_=>[]
def pr(p:Y eD):Y Int:=yz (p.map (·.x))
def YE(p:Y eD):Y ax:=(jN (λ a b=>GA a b (kG px (Co p a))) (pr p)).flatten
def zb(p:Y eD):Y ax×Int:=if Rt p=true then(if (YE p).length>200 then([],6)else(YE p,0))else([],10)
theorem aiL{p:Y eD}(h:Rt p=true):4<=p.length/\p.length<=60:=by unfold Rt at h;simp at h;exact⟨h.1,h.2.1⟩
theorem GV{p:Y eD}(hl:p.length<=1000)(hn:2000<=n):iter (mI p) n (0,[])=some (p.map (·.x)):=by
 have:=dQ (l:=p) (step:=mI p) (λ i s=>(i,s)) (λ r s=>s++[r.x]) (λ s=>s) (λ i s=>s.length<=i)
  (λ i hi s hs=>?_) (λ s hs=>by simp[mI]) n (by omega) [] (aB _)
 rw[fm]at this;rw[this];have gen:∀(ys:Y eD) s,ys.foldl (λ s r=>s++[r.x]) s=s++ys.map (·.x):=by
  intro ys
  induction ys with
  |nil=>intro s;simp
  |cons y ys ih=>intro s;rw[foldl_cons,ih];simp
 congr 1;simpa using gen p [];have ap:bF s.length s.length (sub ([(p[i]).x]:Y Int) 0 1).length 1 8=true:=bV (n:=1) (by omega) (by simp[maxLen];omega);simp only[mI,cK hi,aj,aO hi,ai,ap,dV,aH];refine⟨?_,by simp;omega⟩;rw[aL (by omega)];rfl
theorem GX{p:Y eD}(hl:p.length<=1000)(hn:2000<=n) es (i:Nat) (hi:i<es.length):iter (mJ ((),es) (gF p) (i:Nat)) n (0,[])=some (Co p es[i]):=by
 have:=dQ (l:=gF p) (step:=mJ ((),es) (gF p) (i:Nat)) (λ i s=>(i,s)) (λ r s=>bif !xi r&&(decide (min r.mT r.np<=es[i])&&decide (es[i] <max r.mT r.np))then s++[r.rj]else s) (λ s=>s) (λ i s=>s.length<=i)
  (λ j hj s hs=>?_) (λ s hs=>by simp[mJ]) n (by rw[dY];omega) [] (aB _)
 rw[fm]at this;rw[this];have gen:∀(ys:Y jQ) s,ys.foldl (λ s r=>bif !xi r&&(decide (min r.mT r.np<=es[i])&&decide (es[i] <max r.mT r.np))then s++[r.rj]else s) s=s++(ys.filter λs=>!xi s&&(decide (min s.mT s.np<=es[i])&&decide (es[i] <max s.mT s.np))).map (·.rj):=by
  intro ys
  induction ys with
  |nil=>intro s;simp
  |cons y ys ih=>
   intro s;rw[foldl_cons,ih,List.filter_cons];cases !xi y&&(decide (min y.mT y.np<=es[i])&&decide (es[i] <max y.mT y.np))<;>simp
 congr 1;exact gen (gF p) [];rw[dY]at hj;have g:bx (gF p) ((0:Nat)+(j:Nat))=some (gF p)[j]:=bJ (by rw[dY];exact hj);have ap:bF s.length s.length (sub ([((gF p)[j]'(by rw[dY];exact hj)).rj]:Y Int) 0 1).length 1 8=true:=bV (n:=1) (by omega) (by simp[maxLen];omega);generalize hr:(gF p)[j]'(by rw[dY];exact hj)=r at*;simp only[mJ,dY,cK hj,aj,aV hj,g,ai,ow,aV hi,bJ hi,FT,ap,dV,aH,aZ j];cases xi r<;>cases decide (min r.mT r.np<=es[i])<;>cases decide (es[i] <max r.mT r.np)<;>refine⟨rfl,?_⟩<;>simp<;>omega
theorem acu(x0 x1:Int):∀l:Y Int,(GA x0 x1 l).length<=l.length
 |[]|[_]=>by simp[GA]
 |a::b::l=>by have:=acu x0 x1 l;simp[GA];omega
theorem GY es (i:Nat) (hi:i+1<es.length) (he:es.length<=10000) (w2 r8:Y Int) (hw:w2.length=r8.length) (hr:r8.length<=1000) out (ho:out.length<=10000000) (hn:2000<=n):
 iter (jF ((),es) (i:Nat) w2 r8) n (0,out)=some (out++GA (es[i]'(by omega)) es[i+1] r8):=by
 have main:∀(m k:Nat) out,k+m=r8.length->out.length<=10000000+k->∀f,m<f->iter (jF ((),es) (i:Nat) w2 r8) f ((k:Nat),out)=some (out++GA (es[i]'(by omega)) es[i+1] (r8.drop k)):=by
  intro m
  induction m using Nat.strongRecOn with
  |ind m ih=>
   intro k out hk hko f hf;obtain⟨f,rfl⟩:∃g,f=g+1:=⟨f-1,by omega⟩;have w1:i64.wrap (k+1)=(k+1:Nat):=aL (by omega);have w3:i64.wrap (k+2)=(k+2:Nat):=(by rw[bP (by omega) (by omega)];omega);have w4:i64.wrap (i+1)=(i+1:Nat):=aL (by omega);by_cases h2:k+1<r8.length;have d:decide (((k+1:Nat):Int)<(w2.length:Nat))=true:=(by rw[hw];exact cK h2);have ap:bF out.length out.length (sub ([ax.mk (es[i]'(by omega)) (r8[k]'(by omega)) es[i+1] r8[k+1]]:Y ax) 0 1).length 1 32=true:=bV (n:=1) (by omega) (by simp[maxLen];omega);have st:jF ((),es) (i:Nat) w2 r8 ((k:Nat),out)=some (.inl ((k+2:Nat),out++[ax.mk (es[i]'(by omega)) (r8[k]'(by omega)) es[i+1] r8[k+1]])):=(by simp only[jF,w1,w3,w4,d,aj,aV (show i<es.length by omega),bJ (show i<es.length by omega),ai,aV (show k<w2.length by omega),bJ (show k<r8.length by omega),aV hi,bJ hi,aV (show k+1<w2.length by omega),bJ h2,ap,dV,aH];rfl);have dr:r8.drop k=r8[k]::r8[k+1]::r8.drop (k+2):=(by rw[List.drop_eq_getElem_cons (by omega),List.drop_eq_getElem_cons h2]);rw[jP st,ih (m-2) (by omega) (k+2) _ (by omega) (by rw[eU,List.length_singleton];omega) f (by omega),dr];simp[GA];have d:decide (((k+1:Nat):Int)<(w2.length:Nat))=false:=(by rw[hw,fw];omega);have e:GA (es[i]'(by omega)) es[i+1] (r8.drop k)=[]:=by
    have hl:(r8.drop k).length<=1:=by rw[length_drop];omega
    match r8.drop k,hl with
    |[],_|[_],_=>rfl
    |_::_::_,h=>simp at h
   rw[e,List.append_nil];refine fP ?_;simp only[jF,w1,d,au,aH,aj]
 have:=main r8.length 0 out (by omega) (by omega) n (by omega);rw[fm,List.drop_zero]at this;exact this
theorem apH p:(pr p).length<=p.length:=by have h:=pV (kG px (p.map (·.x)));rw[cZ,length_map]at h;exact h
theorem YF p x:(Co p x).length<=p.length:=by unfold Co;rw[length_map,<- dY p];exact length_filter_le _ _
theorem JL{α:Type}(b:Nat):∀l:Y (List α),(∀ x∈l,x.length<=b)->l.flatten.length<=l.length*b
 |[],_=>by simp
 |x::l,h=>by have h1:=JL b l λy hy=>h y (eG _ hy);have h2:=h x List.mem_cons_self;rw[List.flatten_cons,eU,d9,Nat.add_mul];omega
theorem GZ{p:Y eD}(hl:p.length<=1000)(hn:2000<=n):
 iter (mK n ((),pr p) (gF p)) n (0,[])=some (YE p):=by
 have hx:=apH p;obtain⟨p1,p2⟩:=tQ (λ a b=>GA a b (kG px (Co p a))) (pr p)
 let C:=jN (λ a b=>GA a b (kG px (Co p a))) (pr p)
 have hC:C.length=(pr p).length-1:=p1;have cl:∀c∈C,c.length<=1000:=by intro c hc;obtain⟨i,hi,rfl⟩:=mem_iff_getElem.1 hc;have:=p2 i (by omega) hi;show(C[i]).length<=1000;rw[show C[i]=_ from this];have h1:=acu (pr p)[i] (pr p)[i+1] (kG px (Co p (pr p)[i]));rw[cZ]at h1;have h2:=YF p (pr p)[i];omega
 have bl:∀i,((C.take i).flatten).length<=1000*1000:=by
  intro i;have h1:=JL 1000 (C.take i) λx hx=>cl x (List.mem_of_mem_take hx);have h2:(C.take i).length<=1000:=by rw[length_take];omega
  exact Nat.le_trans h1 (Nat.mul_le_mul_right _ h2)
 have main:=fV (step:=mK n ((),pr p) (gF p)) (λ i=>((i:Nat),(C.take i).flatten)) C.length (YE p) (λ i hi=>?_) ?_ n (by omega);simpa using main;have hi2:i+1<(pr p).length:=by omega
 have hw:i64.wrap (((pr p).length:Nat)-1)=(C.length:Nat):=by rw[bP (by omega) (by omega)];omega
 have bi:=bl i;have cr:=YF p (pr p)[i];have e:C.take (i+1)=C.take i++[GA (pr p)[i] (pr p)[i+1] (kG px (Co p (pr p)[i]))]:=by rw[iY hi];congr 2;exact p2 i hi2 hi
 simp only[mK,hw,cK hi,aj,length_nil,aH,GX hl hn (pr p) i (by omega),ai];rw[kY (by omega) (by omega)];simp;rw[GY (pr p) i hi2 (by omega) (Co p (pr p)[i]) (kG px (Co p (pr p)[i])) (by rw[cZ]) (by rw[cZ];omega) _ (by omega) hn];simp[e,aZ i];have hw:i64.wrap (((pr p).length:Nat)-1)=((pr p).length:Nat)-1:=bP (by omega) (by omega);have d:decide ((C.length:Int)<((pr p).length:Nat)-1)=false:=by rw[fw];omega
 simp[mK,hw,d];rfl
theorem Pw p (hn:2000<=n):u7 n p=some (zb p):=by
 unfold u7 zb;rw[Rv p hn];simp;cases hr:Rt p with
 |false=>rfl
 |true=>
  have⟨_,hl⟩:=aiL hr;simp[GV (n:=n) (p:=p) (by omega) hn];rw[kY (by rw[length_map];omega) (by rw[length_map];omega)];simp[cZ];rw[ni (by rw[cZ,length_map];omega) (by rw[cZ,length_map];omega)];simp[BG (n:=n) (p:=p) (by omega) (by omega)];have hE:iU (kG px (p.map (·.x)))=pr p:=rfl;rw[hE,GZ (by omega) hn];simp;by_cases s8:(YE p).length>200;have:decide ((((YE p).length:Nat):Int)>200)=true:=by simp;omega
  rw[this,aP s8];rfl;have:decide ((((YE p).length:Nat):Int)>200)=false:=by simp;omega
  rw[this,aM s8];rfl
theorem agk p:(zb p).1.length<=200:=by unfold zb;split;split;simp;simp;omega;simp
def Hi(a b:ax):Int:=bif(!ft a || !ft b)then -1 else max (max 0 (i64.wrap ((max a.x0 b.x0)-(min a.x1 b.x1)))) (i64.wrap ((max a.y0 b.y0)-(min a.y1 b.y1)))
theorem agl(a b:ax):P0 a b=some (Hi a b):=by unfold P0 Hi;rw[jM,jM];simp only[ai];cases ft a<;>cases ft b<;>rfl
def A5(a b:Y ax):Int×Bool:=
 bif(decide (a=[]) || (decide (b=[]) || (!da a || !da b)))then(0,false)else(a.foldl (λ m x=>b.foldl (λ m y=>min m (Hi x y)) m) 1048576,true)
theorem aaE{b:Y ax}(hb:b.length<1099511627776)(hn:b.length<n)(x:ax)(m:Int):iter (D5 b x) n (m,(0:Int))=some (b.foldl (λ m y=>min m (Hi x y)) m):=by
 have:=gH (l:=b) (step:=D5 b x) (λ i (s:Int)=>(s,(i:Int))) (λ y m=>min m (Hi x y)) (λ s=>s) (λ i hi s=>?_) (λ s=>by simp[D5]) n hn m
 .exact this
 .have hi':decide ((i:Int)<(b.length:Int))=true:=by simpa using hi
  simp only[D5,hi',aj,aO hi,ai,agl];rw[aL (by omega)]
theorem alC{a b:Y ax}(ha:a.length<=900)(hb:b.length<=900)(hn:1000<=n):Yl n a b=some (A5 a b):=by
 unfold Yl A5;have z:∀l:Y ax,(((l.length:Int))==0)=decide (l=[]):=λl=>by cases l<;>simp<;>omega
 rw[z a,z b,jr (by omega) (by omega) hn,jr (by omega) (by omega) hn];have loop:(iter (D6 n a b) n ((1048576:Int),(0:Int)))=some (a.foldl (λ m x=>b.foldl (λ m y=>min m (Hi x y)) m) 1048576):=by
  have:=gH (l:=a) (step:=D6 n a b) (λ i (s:Int)=>(s,(i:Int))) (λ x m=>b.foldl (λ m y=>min m (Hi x y)) m) (λ s=>s) (λ i hi s=>?_) (λ s=>by simp[D6]) n (by omega) 1048576
  .exact this
  .have hi':decide ((i:Int)<(a.length:Int))=true:=(by simpa using hi);simp only[D6,hi',aj,aO hi,ai];rw[aaE (by omega) (by omega),ai,aL (by omega)]
 simp[loop];cases decide (a=[])<;>cases decide (b=[])<;>cases da a<;>cases da b<;>rfl
def PC:fM:=fM.mk 0 0 [] []
def dH(land:Y fM)(id:Int):fM×Bool:=match land.find? λt=>t.id==id with
 |some t=>(t,true)
 |none=>(PC,false)
abbrev Tr(t:fM):Prop:=t.area.length<=900/\t.from_.length*8<=140737488355328
theorem agn{t:fM}(h:Tr t):DZ t=some t:=by unfold DZ;have hc:q9 t.from_=some t.from_:=qH (b:=8) h.2 (by simp[maxLen];omega);rw[D9 (by omega),ai,hc,ai];simp
theorem M4{α:Type}(p:α->Bool) l:(∃ (i:Nat) (h:i<l.length),nM p l=some i/\l.find? p=some l[i])\/(nM p l=none/\l.find? p=none):=by rcases Fp p l with ⟨i,hi,h1,h2,h3⟩|⟨h1,h2⟩;refine .inl ⟨i,hi,h1,?_⟩;rw[List.find?_eq_some_iff_getElem];exact⟨h2,i,hi,rfl,λj hj=>by simpa using h3 j hj⟩;refine .inr ⟨h1,?_⟩;rw[List.find?_eq_none];intro x hx;rw[h2 x hx];simp
theorem M5{land:Y fM}{id:Int}(h:∀t∈land,Tr t)(hl:land.length<1099511627776)(hn:land.length<n):rf n land id=some (dH land id):=by
 unfold rf;have:=kI (l:=land) (step:=tL land id) (λ i=>i) (λ t=>t.id==id) () (λ i=>(land.getD i PC,true)) (λ i hi=>?_) ?_ n hn;rw[fm]at this;rw[this];unfold dH;rcases M4 (λ t:fM=>t.id==id) land with ⟨i,hi,h1,h2⟩|⟨h1,h2⟩;rw[h1,h2];simp[hi];rw[h1,h2];rfl;have hi':decide ((i:Int)<land.length)=true:=by simpa using hi
 simp only[tL,hi',aj,aO hi,ai,agn (h _ (getElem_mem hi))];cases land[i].id==id with
 |true=>simp[hi]
 |false=>simp only[au];rw[aL (by omega)]
 simp[tL]
def M6(t:fM)(id d:Int)(u:fM):Bool:=(A5 t.area u.area).2&&(decide ((A5 t.area u.area).1<=d)&&(u.id !=id))
def BH(land:Y fM)(t:fM)(id d:Int):Y Int:=(land.filter λu=>M6 t id d u).map (·.id)
def IM(land:Y fM)(id d:Int):Y Int:=
 bif(dH land id).2 then yz (BH land (dH land id).1 id d)else []
theorem YG{land:Y fM}(hl:land.length<10995116277)(hn:land.length<n):iter (zR land) n ((0:Int),([]:Y (List ax)))=some (land.map (·.area)):=by
 have:=fV (step:=zR land) (λ i=>((i:Int),(land.take i).map (·.area))) land.length (land.map (·.area)) (λ i hi=>?_) ?_ n hn
 .simpa using this
 .have hi':decide ((i:Int)<(land.length:Int))=true:=by simpa using hi
  have ap:bF ((land.take i).map (·.area)).length ((land.take i).map (·.area)).length (sub ([land[i].area]:Y (List ax)) 0 1).length 1 24=true:=by
   refine bV (n:=1) ?_ ?_
   .rw[length_map,length_take];omega
   .rw[length_map,length_take];simp[maxLen];omega
  simp only[zR,hi',aj,aO hi,ai,ap,dV,aH];rw[aL (by omega),iY hi,map_append];rfl
 .simp[zR]
theorem aaF{land:Y fM}(h:∀t∈land,t.area.length<=900) id:(dH land id).1.area.length<=900:=by unfold dH;split;rename_i t ht;exact h t (List.mem_of_find?_eq_some ht);simp[PC]
theorem aiN{land:Y fM}{id d:Int}(h:∀t∈land,t.area.length<=900)(hF:rf n land id=some (dH land id))(hl:land.length<=100)(hn:1000<=n):O5 n land id d=some (IM land id d):=by
 unfold O5 IM;rw[hF];simp;cases hf:(dH land id).2 with
 |false=>rfl
 |true=>
  have ht:=aaF h id;simp[YG (land:=land) (n:=n) (by omega) (by omega)];have key:iter (zS n land id d (dH land id) (land.map (·.area))) n ((0:Int),([]:Y Int))=some (BH land (dH land id).1 id d):=by
   have:=dQ (l:=land) (step:=zS n land id d (dH land id) (land.map (·.area))) (λ i (s:List Int)=>((i:Int),s)) (λ u s=>bif M6 (dH land id).1 id d u then s++[u.id]else s) (λ s=>s) (λ i s=>s.length<=i)
    (λ i hi s hs=>?_) (λ s hs=>by simp[zS]) n (by omega) [] (aB _)
   .rw[fm]at this;rw[this];have gen:∀(ys:Y fM) (s:Y Int),ys.foldl (λ s u=>bif M6 (dH land id).1 id d u then s++[u.id]else s) s=s++BH ys (dH land id).1 id d:=by
     intro ys
     induction ys with
     |nil=>intro s;simp[BH]
     |cons y ys ih=>
      intro s;simp[ih,BH];cases hy:M6 (dH land id).1 id d y<;>simp[hy]
    rw[gen];simp
   .have hlm:(land.map (·.area)).length=land.length:=(by simp);have hi':decide ((i:Int)<(((land.map (·.area)).length:Nat):Int))=true:=(by rw[hlm];simpa using hi);have ib:cV (i:Int) (land.map (·.area)).length=true:=aV (by omega);have g:bx (land.map (·.area)) (((0:Nat):Int)+(i:Int))=some land[i].area:=(by rw[Fj];simp[hi]);have hu:=h _ (getElem_mem hi);have ap:bF s.length s.length (sub ([land[i].id]:Y Int) 0 1).length 1 8=true:=bV (n:=1);have gp:Yl n (dH land id).1.area land[i].area=some (A5 (dH land id).1.area land[i].area):=alC ht hu hn;simp only[zS,hi',aj,ib,g,ai,gp,aO hi];have e:((bif (A5 (dH land id).1.area land[i].area).2 then(bif (decide ((A5 (dH land id).1.area land[i].area).1<=d))then some (land[i].id !=id)else some false)else some false):J Bool)=some (M6 (dH land id).1 id d land[i]):=(by unfold M6;cases (A5 (dH land id).1.area land[i].area).2<;>cases decide ((A5 (dH land id).1.area land[i].area).1<=d)<;>rfl);rw[e];simp only[ai];cases M6 (dH land id).1 id d land[i]with
    |true=>
     simp only[aj,ap,dV,aH,ai];refine⟨?_,by simp;omega⟩;rw[aL (by omega)];rfl
    |false=>
     simp only[au,aH,aj,ai];exact⟨by rw[aL (by omega)],by omega⟩
  have hlen:(BH land (dH land id).1 id d).length<=100:=by unfold BH;rw[length_map];exact Nat.le_trans (length_filter_le _ _) hl
  rw[key];simp[ai,aH,aj];rw[kY (by omega) (by omega)];simp[ai,cZ,aH,aj];rw[ni (by rw[cZ];omega) (by rw[cZ];omega)];simp[ai,dP,aH,aj];rfl
theorem aiO{land:Y fM}{id d:Int}(h:∀t∈land,Tr t)(hl:land.length<=100)(hn:1000<=n):O5 n land id d=some (IM land id d):=aiN (λ t ht=>(h t ht).1) (M5 h (by omega) (by omega)) hl hn
def adV:ByteArray:=⟨#[110,111,116,105,99,101]⟩
def SP(t:bQ)(name:ByteArray):Int:=match t.rows.find? λe=>ByteArray.toList e.name==ByteArray.toList name with
 |some e=>e.n
 |none=>t.sk
def In(tables:Y bQ)(name:ByteArray):Int:=match tables.find? λt=>ByteArray.toList t.name==ByteArray.toList adV with
 |some t=>SP t name
 |none=>0
theorem FU{α:Type}(p:α->Bool) l:(∃ (i:Nat) (h:i<l.length),yP p l=i/\l.find? p=some l[i])\/(yP p l=-1/\l.find? p=none):=by rcases M4 p l with ⟨i,hi,h1,h2⟩|⟨h1,h2⟩;exact .inl ⟨i,hi,by simp[yP,h1],h2⟩;exact .inr ⟨by simp[yP,h1],h2⟩
theorem acw{p:bO}{name:ByteArray}(h:p.tables.length<n)(hl:p.tables.length<1099511627776)(hr:∀t∈p.tables,t.rows.length<n/\t.rows.length<1099511627776):Rj n p name=some (In p.tables name):=by
 unfold Rj In;rw[vZ (λ t=>ByteArray.toList t.name==ByteArray.toList adV) (λ x _=>rfl) hl h];simp;rcases FU (λ t:bQ=>ByteArray.toList t.name==ByteArray.toList adV) p.tables with ⟨i,hi,h1,h2⟩|⟨h1,h2⟩
 .rw[h1,h2];have d:decide ((i:Int)<0)=false:=by simp
  obtain⟨r1,r2⟩:=hr _ (getElem_mem hi);simp[d,aO hi];rw[wh (λ e=>ByteArray.toList e.name==ByteArray.toList name) (λ x _=>rfl) r2 r1];simp[SP];rcases FU (λ e:bg=>ByteArray.toList e.name==ByteArray.toList name) p.tables[i].rows with ⟨j,hj,g1,g2⟩|⟨g1,g2⟩
  .rw[g1,g2];have d:decide ((j:Int)<0)=false:=(by simp);simp[d,aO hj]
  .rw[g1,g2];rfl
 .rw[h1,h2];rfl
def ii:Y ByteArray:=[⟨#[104,111,109,101]⟩,⟨#[115,104,111,112]⟩,⟨#[119,111,114,107]⟩,⟨#[112,97,114,107]⟩,⟨#[112,108,97,110,116]⟩,⟨#[104,97,108,108]⟩]
def nameOf(use:Int):J ByteArray:=bx ii use
def aqX(tables:Y bQ)(m:Int)(v:aG):Int:=match nameOf v.use with
 |some nm=>max m (In tables nm)
 |none=>m
def anZ(tables:Y bQ)(m:Int)(ph:lI):Int:=ph.b9.foldl (aqX tables) m
def an1(tables:Y bQ)(d:aQ):Int:=d.phases.foldl (anZ tables) 0
abbrev VM(ts:Y bQ):Prop:=ts.length<=100/\∀t∈ts,t.rows.length<=100
abbrev YH(d:aQ):Prop:=d.phases.length<=100/\∀p∈d.phases,p.b9.length<=100
theorem M7{p:bO}(hp:VM p.tables){ph:lI}(hv:ph.b9.length<=100)(hn:1000<=n)(m:Int):iter (qJ n p ph) n (m,(0:Int))=some (anZ p.tables m ph):=by
 have:=gH (l:=ph.b9) (step:=qJ n p ph) (λ i (s:Int)=>(s,(i:Int))) (λ v m=>aqX p.tables m v) (λ s=>s) (λ i hi s=>?_) (λ s=>by simp[qJ]) n (by omega) m
 .exact this
 .have hi':decide ((i:Int)<(ph.b9.length:Int))=true:=by simpa using hi
  have rw1:∀nm,Rj n p nm=some (In p.tables nm):=λnm=>acw (by omega) (by omega) (λ t ht=>by have:=hp.2 t ht;omega);simp only[qJ,hi',aj,aO hi,ai];have e:((bif (decide (ph.b9[i].use>=(0:Int)))then some (decide (ph.b9[i].use<(6:Int)))else some false):J Bool)=some (cV ph.b9[i].use 6):=by simp only[zZ,cV];rfl
  rw[e];simp only[ai,aqX,nameOf];cases hb:cV ph.b9[i].use 6 with
  |true=>
   have hb2:0<=ph.b9[i].use/\ph.b9[i].use<6:=(by simpa[cV]using hb);obtain⟨k,hk⟩:∃k:Nat,ph.b9[i].use=(k:Int):=⟨ph.b9[i].use.toNat,by omega⟩;have hk6:k<ii.length:=(by have:ii.length=6:=rfl;omega);have g:bx ii ph.b9[i].use=some ii[k]:=(by rw[hk];exact aO hk6);have g':bx ([⟨#[104,111,109,101]⟩,⟨#[115,104,111,112]⟩,⟨#[119,111,114,107]⟩,⟨#[112,97,114,107]⟩,⟨#[112,108,97,110,116]⟩,⟨#[104,97,108,108]⟩]:Y ByteArray) ph.b9[i].use=some ii[k]:=g;simp only[aj,g',ai,rw1,g];rw[aL (by omega)]
  |false=>
   have g:bx ii ph.b9[i].use=none:=by
    have hb2:¬(0<=ph.b9[i].use/\ph.b9[i].use<6):=(by intro hc;rw[show cV ph.b9[i].use 6=true by simpa[cV]using hc]at hb;cases hb);by_cases h0:0<=ph.b9[i].use
    .obtain⟨k,hk⟩:∃k:Nat,ph.b9[i].use=(k:Int):=⟨ph.b9[i].use.toNat,by omega⟩;rw[hk,Fh];exact List.getElem?_eq_none (by have:ii.length=6:=rfl;omega)
    .simp[bx,h0]
   simp only[au,g,ai];rw[aL (by omega)]
theorem YI{p:bO}(hp:VM p.tables){d:aQ}(hd:YH d)(hn:1000<=n):xR n p d=some (an1 p.tables d):=by
 unfold xR;have:=gH (l:=d.phases) (step:=uR n p d) (λ i (s:Int)=>(s,(i:Int))) (λ ph m=>anZ p.tables m ph) (λ s=>s) (λ i hi s=>?_) (λ s=>by simp[uR]) n (by omega) 0
 .rw[fm]at this;rw[this];rfl
 .have hi':decide ((i:Int)<(d.phases.length:Int))=true:=by simpa using hi
  simp only[uR,hi',aj,aO hi,ai];rw[M7 hp (hd.2 _ (getElem_mem hi)) hn,ai,aL (by omega)]
theorem YJ{p:bO}(hp:VM p.tables)(hn:1000<=n):Fx n p=some (max 0 (In p.tables ⟨#[100,97,121,115]⟩)):=by unfold Fx;rw[acw (by omega) (by omega) (λ t ht=>by have:=hp.2 t ht;omega)];rfl
abbrev YK(t:fq):Prop:=t.land.length<=100/\(∀ l∈t.land,Tr l)/\VM t.cw
def aiP(a0:fq):bO:=bO.mk a0.cL a0.cw a0.cz a0.az a0.cT a0.cW a0.d6 a0.cX
def BJ(t:fq)(d:aQ):Y Int:=IM t.land d.lot (an1 t.cw d)
def nk(t:fq)(ab:Y Int):Y Int:=ab.map λid=>(dH t.land id).1.owner
def adX(t:fq)(d:aQ):Y Int:=yz (nk t (BJ t d))
theorem T9 l:(yz l).length<=l.length:=by
 unfold yz;have:=pV (kG (λ a b=>decide (a<b)) l)
 rwa [cZ]at this
theorem Px land (id d:Int):(IM land id d).length<=land.length:=by
 unfold IM;cases (dH land id).2 with
 |true=>
  refine Nat.le_trans (T9 _) ?_;unfold BH;rw[length_map];exact length_filter_le _ _
 |false=>simp
theorem aiQ{t:fq}(ht:YK t){d:aQ}(hd:YH d)(hn:1000<=n):VW n t d=some (BJ t d):=by unfold VW;have h1:xR n (bO.mk t.cL t.cw t.cz t.az t.cT t.cW t.d6 t.cX) d=some (an1 t.cw d):=YI (p:=aiP t) ht.2.2 hd hn;rw[h1,ai,aiO ht.2.1 ht.1 hn];simp;rfl
theorem adY{t:fq}(ht:YK t){d:aQ}(hd:YH d)(hn:1000<=n):KH n t d=some (adX t d):=by
 unfold KH;rw[aiQ ht hd hn];have hlen:(BJ t d).length<=100:=Nat.le_trans (Px _ _ _) ht.1;have key:iter (uW n t (BJ t d)) n ((0:Int),([]:Y Int))=some (nk t (BJ t d)):=by
  have:=fV (step:=uW n t (BJ t d)) (λ i=>((i:Int),nk t ((BJ t d).take i))) (BJ t d).length (nk t (BJ t d)) (λ i hi=>?_) ?_ n (by omega)
  .simpa[nk]using this
  .have hi':decide ((i:Int)<(((BJ t d).length:Nat):Int))=true:=(by simpa using hi);have ap:bF (nk t ((BJ t d).take i)).length (nk t ((BJ t d).take i)).length (sub ([(dH t.land (BJ t d)[i]).1.owner]:Y Int) 0 1).length 1 8=true:=by
    refine bV (n:=1) ?_ ?_
    .unfold nk;rw[length_map,length_take];omega
    .unfold nk;rw[length_map,length_take];simp[maxLen];omega
   simp only[uW,hi',aj,aV hi,bJ hi,ai];rw[M5 ht.2.1 (by have:=ht.1;omega) (by have:=ht.1;omega)];simp only[ai,ap,aj,dV,aH];rw[aL (by omega),iY hi];simp only[nk,map_append];rfl
  .simp[uW]
 simp[key];have hol:(nk t (BJ t d)).length<=100:=by unfold nk;rw[length_map];exact hlen
 rw[kY (by omega) (by omega)];simp[cZ];rw[ni (by rw[cZ];omega) (by rw[cZ];omega)];simp;rfl
theorem YL{t:fq}(ht:YK t)(d:aQ):(adX t d).length<=100:=by refine Nat.le_trans (T9 _) ?_;unfold nk;rw[length_map];exact Nat.le_trans (Px _ _ _) ht.1
def SO(t:fq)(d:aQ)(gz:Int):Bool:=((adX t d).any λy=>gz==y)&&((dH t.land d.lot).2&&((dH t.land d.lot).1.owner !=gz))
theorem alE{t:fq}(ht:YK t){d:aQ}(hd:YH d){gz:Int}(hn:1000<=n):Ym n t d gz=some (SO t d gz):=by unfold Ym SO;have l1:=YL ht d;rw[M5 ht.2.1 (by have:=ht.1;omega) (by have:=ht.1;omega),adY ht hd hn];simp;rw[zY (by omega) (by omega)];simp[zZ]
theorem agp{V O:Type}{step:V->J (V⊕O)}(R:Nat->V->Prop)(N:Nat)(Ξ:O->Prop)(h:∀i v,i<N->R i v->∃v',step v=some (.inl v')/\R (i+1) v')(hN:∀v,R N v->∃o,step v=some (.inr o)/\Ξ o):
 ∀n,N<n->∀v,R 0 v->∃o,iter step n v=some o/\Ξ o:=by
 have main:∀k i n v,i+k=N->k<n->R i v->∃o,iter step n v=some o/\Ξ o:=by
  intro k
  induction k with
  |zero=>
   intro i n v hi hn hR;obtain⟨m,rfl⟩:∃m,n=m+1:=⟨n-1,by omega⟩;have:i=N:=(by omega);subst this;have⟨o,h1,h2⟩:=hN v hR;exact⟨o,fP h1,h2⟩
  |succ k ih=>
   intro i n v hi hn hR;obtain⟨m,rfl⟩:∃m,n=m+1:=⟨n-1,by omega⟩;obtain⟨v',h1,h2⟩:=h i v (by omega) hR;obtain⟨o,h3,h4⟩:=ih (i+1) m v' (by omega) (by omega) h2;exact⟨o,by rw[jP h1,h3],h4⟩
 intro n hn v hR;exact main N 0 n v (by omega) hn hR
def Cq(z:fO):Y ax:=if (zb z.corners).2=0 then(zb z.corners).1 else []
theorem aiR(z:fO):(Cq z).length<=200:=by unfold Cq;split;exact agk _;simp
theorem UB(z:fO)(hn:2000<=n):yX n z=some (Cq z):=by
 unfold yX Cq;rw[Pw _ hn];simp;by_cases h:(zb z.corners).2=0;have:((zb z.corners).2 !=0)=false:=by simp[h]
 rw[this,aP h];rfl;have:((zb z.corners).2 !=0)=true:=by simp[h]
 rw[this,aM h];rfl
def GD(a b:ax):ax:=⟨max a.x0 b.x0,max a.y0 b.y0,min a.x1 b.x1,min a.y1 b.y1⟩
theorem Py(a:ax):zq a=some (bif ft a then(a,true)else(⟨0,0,0,0⟩,false)):=by unfold zq;rw[jM];simp[FT]
theorem Ac(a b:ax):uj a b=some (bif ft a&&(ft b&&ft (GD a b))then(GD a b,true)else(⟨0,0,0,0⟩,false)):=by unfold uj;rw[jM,jM];simp only[ai,FT];rw[show ax.mk (max a.x0 b.x0) (max a.y0 b.y0) (min a.x1 b.x1) (min a.y1 b.y1)=GD a b from rfl,Py];simp only[ai];generalize ft (GD a b)=c;cases ft a<;>cases ft b<;>cases c<;>rfl
def PB(r:ax):Int:=i64.wrap (i64.wrap (r.x1-r.x0)*i64.wrap (r.y1-r.y0))
theorem Ee{r:ax}(h:ft r=true):zT r=some (PB r):=by unfold zT;rw[Py,h];rfl
def YM(x:ax)(n:Int)(y:ax):Int:=bif ft x&&(ft y&&ft (GD x y))then i64.wrap (n+PB (GD x y))else n
def FV(a b:Y ax):Int:=a.foldl (λ n x=>b.foldl (YM x) n) 0
theorem apK{α G:Type} c (a:α) (u v:G):(bif c then(a,u)else(a,v)).1=a:=by cases c<;>rfl
theorem JM b (x:ax) (hb:b.length<=1000) (hn:2000<=n) (m u v:Int):∃o,iter (rz n b x) n (m,0,u,v)=some o/\o.1=b.foldl (YM x) m:=by
 refine agp (λ i (w:Int×Int×Int×Int)=>w.2.1=i/\w.1=(b.take i).foldl (YM x) m) b.length (λ (o:Int×Int×Int)=>o.1=b.foldl (YM x) m) (λ i w hi hR=>?_) (λ w hR=>?_) n (by omega) _ ⟨rfl,rfl⟩;obtain⟨w1,w2,w3,w4⟩:=w;obtain⟨h1,h2⟩:=hR;simp at h1 h2;subst h1;have e:(b.take (i+1)).foldl (YM x) m=YM x w1 b[i]:=by rw[iY hi,List.foldl_append,<- h2];rfl
 simp only[rz,cK hi,aj,aO hi,ai,Ac];have e0:YM x w1 b[i]=bif ft x&&(ft b[i]&&ft (GD x b[i]))then i64.wrap (w1+PB (GD x b[i]))else w1:=rfl;rw[e0]at e;cases hc:ft x&&(ft b[i]&&ft (GD x b[i]))with
 |false=>
  rw[hc]at e;simp only[au,Bool.not_false,aj,ai];exact⟨_,rfl,aL (by omega),e.symm⟩
 |true=>
  rw[hc]at e;have hcc:ft (GD x b[i])=true:=by revert hc;generalize ft (GD x b[i])=c;cases c;cases ft x<;>cases ft b[i]<;>simp;simp
  simp only[aj,Bool.not_true,au,Ee hcc,ai,kX];rw[show ∀u v:Int,sub [u,v] 0 2=[u,v]from λ_ _=>rfl,Yu _ _ (by omega)];simp only[ai,FT];simp only[show ∀u v:Int,aE [u,v].length 2=true from λ_ _=>rfl,aj,ai];refine⟨_,rfl,aZ i,?_⟩;rw[e];exact apK _ _ _ _
 obtain⟨w1,w2,w3,w4⟩:=w;obtain⟨h1,h2⟩:=hR;simp only at h1 h2;subst h1;simp only[rz,Pk,au];exact⟨_,rfl,by rw[h2,List.take_length]⟩
theorem Rw(a b:Y ax)(ha:a.length<=1000)(hb:b.length<=1000)(hn:2000<=n):∃q,xw n a b=some (FV a b,q):=by
 unfold xw;obtain⟨o,h1,h2⟩:=agp (step:=rC n a b) (λ i (w:Int×Int×Int×Int)=>w.2.1=i/\w.1=(a.take i).foldl (λ n x=>b.foldl (YM x) n) 0) a.length (λ (o:Int×Int×Int)=>o.1=FV a b) (λ i w hi hR=>by obtain⟨w1,w2,w3,w4⟩:=w;obtain⟨h1,h2⟩:=hR;simp at h1 h2;subst h1;have⟨o,g1,g2⟩:=JM (n:=n) b a[i] hb hn w1 w3 w4;obtain⟨o1,o2,o3⟩:=o;simp only[rC,cK hi,aj,aO hi,ai,g1];refine⟨_,rfl,aL (by omega),?_⟩;simp at g2;rw[iY hi,List.foldl_append,<- h2,g2];rfl) (λ w hR=>by obtain⟨w1,w2,w3,w4⟩:=w;obtain⟨h1,h2⟩:=hR;simp only at h1 h2;subst h1;simp only[rC,Pk,au];exact⟨_,rfl,by rw[h2,List.take_length];rfl⟩) n (by omega) (0,0,1048576,0) ⟨rfl,rfl⟩;obtain⟨o1,o2,o3⟩:=o;simp at h2;subst h2;exact⟨_,by rw[h1];rfl⟩
def ze(zs:Y fO)(area:Y ax):Y Int:=bif da area then zs.map λz=>FV area (Cq z)else []
theorem Rx(p:bO) a (hz:p.zones.length<=100) (ha:a.length<=900) (hn:2000<=n):xA n p a=some (ze p.zones a):=by
 unfold xA ze;rw[jr (by omega) (by omega) (by omega)];simp;cases da a with
 |false=>rfl
 |true=>
  have:=dQ (l:=p.zones) (step:=rD n p a) (λ i s=>(i,s)) (λ z s=>s++[FV a (Cq z)]) (λ s=>s) (λ i s=>s.length<=i)
   (λ i hi s hs=>?_) (λ s hs=>by simp[rD]) n (by omega) [] (aB _)
  rw[fm]at this;simp only[Bool.not_true,au,length_nil,aH,aj,this,ai,dP];congr 1;have gen:∀(ys:Y fO) s,ys.foldl (λ s z=>s++[FV a (Cq z)]) s=s++ys.map λz=>FV a (Cq z):=by
   intro ys
   induction ys with
   |nil=>intro s;simp
   |cons y ys ih=>intro s;rw[foldl_cons,ih];simp
  exact gen p.zones [];have cl:=aiR p.zones[i];obtain⟨q,hq⟩:=Rw (n:=n) a (Cq p.zones[i]) (by omega) (by omega) hn;have ap:bF s.length s.length (sub ([FV a (Cq p.zones[i])]:Y Int) 0 1).length 1 8=true:=bV (n:=1) (by omega) (by simp[maxLen];omega);simp only[rD,cK hi,aj,aO hi,ai,UB _ hn,dP,aH,hq,ap,dV];refine⟨?_,by simp;omega⟩;rw[aL (by omega)];rfl
theorem Ua zs a:(ze zs a).length<=zs.length:=by unfold ze;cases da a<;>simp
def yL(zs:Y fO)(l:Y Int)(m:Nat):Int:=(List.range m).foldl (λ b i=>if (!((zs.getD i ⟨⟨#[]⟩,false,[]⟩).overlay)&&(decide (l.getD i 0>0)&&(decide (b<0) || decide (l.getD i 0>l.getD b.toNat 0))))=true then i else b) (-1)
def FW(zs:Y fO)(l:Y Int)(i:Nat):Bool:=decide (i=yL zs l l.length) || ((zs.getD i ⟨⟨#[]⟩,false,[]⟩).overlay&&decide (l.getD i 0>0))
def HN(zs:Y fO)(area:Y ax):Y ByteArray:=((List.range (ze zs area).length).filter (FW zs (ze zs area))).map λi=>(zs.getD i ⟨⟨#[]⟩,false,[]⟩).name
theorem Ub zs l:∀m,yL zs l m=-1\/∃k:Nat,k<m/\yL zs l m=k
 | 0=>.inl rfl
 |m+1=>by have ih:=Ub zs l m;unfold yL;rw[List.range_succ,List.foldl_append];simp only[foldl_cons,List.foldl_nil];split;exact .inr ⟨m,by omega,rfl⟩;rcases ih with h|⟨k,h1,h2⟩;exact .inl h;exact .inr ⟨k,by omega,h2⟩
theorem JN{α:Type}{l:Y α}{i:Nat}(d:α)(h:i<l.length):l.getD i d=l[i]:=by simp[h]
theorem Ry(p:bO) l (hl:l.length<=p.zones.length) (hz:p.zones.length<=100) (hn:2000<=n):iter (rE p l) n ((-1),0)=some (yL p.zones l l.length):=by
 have main:=fV (step:=rE p l) (λ i=>(yL p.zones l i,(i:Nat))) l.length (yL p.zones l l.length) (λ i hi=>?_) (by simp[rE]) n (by omega);exact main;have hz':i<p.zones.length:=by omega
 have e:yL p.zones l (i+1)=if (!(p.zones[i]).overlay&&(decide (l[i]>0)&&(decide (yL p.zones l i<0) || decide (l[i]>l.getD (yL p.zones l i).toNat 0))))=true then(i:Int)else yL p.zones l i:=by
  conv=>lhs;unfold yL
  rw[List.range_succ,List.foldl_append];simp only[foldl_cons,List.foldl_nil,JN _ hz',JN _ hi];rfl
 rw[e];rcases Ub p.zones l i with h|⟨k,h1,h2⟩;rw[h];have d:decide (-1<0)=true:=rfl;simp only[rE,cK hi,aj,aV hi,bJ hi,ai,aO hz',d,FT,Bool.true_or,Bool.and_true,aZ i];cases (p.zones[i]).overlay<;>cases decide (l[i]>0)<;>rfl;rw[h2];have d:decide ((k:Nat)<0)=false:=by simp
 have hk:k<l.length:=by omega
 simp only[rE,cK hi,aj,aV hi,bJ hi,ai,aO hz',d,FT,Bool.false_or,au,aV hk,bJ hk,Int.toNat_natCast,JN _ hk,aZ i];cases (p.zones[i]).overlay<;>cases decide (l[i]>0)<;>cases decide (l[i]>l[k])<;>rfl
theorem adZ(p:bO) a (hz:p.zones.length<=100) (ha:a.length<=900) (hn:2000<=n):D8 n p a=some (HN p.zones a):=by
 unfold D8;have sl:=Ua p.zones a;rw[Rx p a hz ha hn];simp;rw[Ry p _ sl hz hn];simp;unfold HN;generalize hL:ze p.zones a=l at*
 have:=dQ (l:=List.range l.length) (step:=yY p l (yL p.zones l l.length)) (λ i s=>(i,s)) (λ i s=>bif FW p.zones l i then s++[(p.zones.getD i ⟨⟨#[]⟩,false,[]⟩).name]else s) (λ s=>s) (λ i s=>s.length<=i)
  (λ i hi s hs=>?_) (λ s hs=>by rw[List.length_range];simp[yY]) n (by rw[List.length_range];omega) [] (aB _)
 rw[fm]at this;simp[this];congr 1;have gen:∀(ys:Y Nat) s,ys.foldl (λ s i=>bif FW p.zones l i then s++[(p.zones.getD i ⟨⟨#[]⟩,false,[]⟩).name]else s) s=s++(ys.filter (FW p.zones l)).map λi=>(p.zones.getD i ⟨⟨#[]⟩,false,[]⟩).name:=by
  intro ys
  induction ys with
  |nil=>intro s;simp
  |cons y ys ih=>
   intro s;rw[foldl_cons,ih,List.filter_cons];cases FW p.zones l y<;>simp
 exact gen (List.range l.length) [];rw[List.length_range]at hi;have hz':i<p.zones.length:=by omega
 rw[List.getElem_range];have ap:bF s.length s.length (sub ([(p.zones[i]).name]:Y ByteArray) 0 1).length 1 16=true:=bV (n:=1) (by omega) (by simp[maxLen];omega);have hb:((i:Nat)==yL p.zones l l.length)=decide ((i:Nat)=yL p.zones l l.length):=by rw[eZ];simp
 simp only[yY,cK hi,aj,aV hi,bJ hi,ai,aO hz',hb,FT,ap,dV,aH,FW,JN _ hz',JN _ hi,aZ i];cases decide ((i:Nat)=yL p.zones l l.length)<;>cases (p.zones[i]).overlay<;>cases decide (l[i]>0)<;>refine⟨rfl,?_⟩<;>simp<;>omega
theorem apL zs a:(HN zs a).length<=zs.length:=by unfold HN;rw[length_map];have h1:=length_filter_le (FW zs (ze zs a)) (List.range (ze zs a).length);rw[List.length_range]at h1;have:=Ua zs a;omega
def fg(a b:ByteArray):Bool:=ByteArray.toList a==ByteArray.toList b
theorem lD{l:Y ByteArray}{a:ByteArray}(hl:l.length<1099511627776)(hn:l.length<n):eF n l a=some (l.any (fg a)):=by
 unfold eF;have e:sW n l a=adC n (λ x=>ByteArray.toList a==ByteArray.toList x) l:=by kernel_rfl
 rw[e,Jd hl hn,ai,sS];rfl
theorem rP{l:Y ByteArray}{Z:(ByteArray×Unit)->J Bool}(p:ByteArray->Bool)(h:∀x∈l,Z (x,())=some (p x))(hl:l.length<1099511627776)(hn:l.length<n):gm n l Z=some (l.any p):=by
 unfold gm;have e:rX n l Z=xP n l Z:=by kernel_rfl
 rw[e,fU p h hl hn,ai,sS]
def V9(r:dw)(zs:Y ByteArray):Bool:=(decide (r.zones=[]) || r.zones.any λz=>zs.any (fg z))&&!(r.except.any λz=>zs.any (fg z))
theorem Rz(r:dw) zs (h1:r.zones.length<=100) (h2:r.except.length<=100) (h3:zs.length<=100) (hn:2000<=n):sI n r zs=some (V9 r zs):=by
 have hf:∀x:ByteArray,kM n x zs=some (zs.any (fg x)):=λx=>by unfold kM;rw[lD (by omega) (by omega)];rfl
 unfold sI V9;rw[rP (λ z=>zs.any (fg z)) (λ x _=>hf x) (by omega) (by omega),rP (λ z=>zs.any (fg z)) (λ x _=>hf x) (by omega) (by omega)];simp;have e:((r.zones.length:Int)==0)=decide (r.zones=[]):=by rw[eZ,beq_iff_eq,bf];constructor;intro h;exact List.length_eq_zero_iff.1 (by omega);intro h;rw[h];rfl
 rw[e];cases decide (r.zones=[])<;>cases (r.zones.any λz=>zs.any (fg z))<;>cases (r.except.any λz=>zs.any (fg z))<;>rfl
def sN(zs:Y ByteArray)(day:Int)(r:dw):Bool:=decide (r.from_<=day)&&((r.lr==0 || decide (day<r.lr))&&V9 r zs)
def RA(rules:Y dw)(zs:Y ByteArray)(day:Int):Y Nat:=(List.range rules.length).filter λi=>(rules[i]?).any (sN zs day)
abbrev aiS(r:dw):Prop:=r.zones.length<=100/\r.except.length<=100
theorem UC(p:bO) zs day (hr:∀r∈p.rules,aiS r) (hl:p.rules.length<=100) (h3:zs.length<=100) (hn:2000<=n):ve n p zs day=some ((RA p.rules zs day).map λ(i:Nat)=>(i:Int)):=by
 unfold ve RA
 have:=dQ (l:=List.range p.rules.length) (step:=tu n p zs day) (λ i s=>(i,s)) (λ i s=>bif(p.rules[i]?).any (sN zs day)then s++[(i:Int)]else s) (λ s=>s) (λ i s=>s.length<=i)
  (λ i hi s hs=>?_) (λ s hs=>by rw[List.length_range];simp[tu]) n (by rw[List.length_range];omega) [] (aB _)
 rw[fm]at this;simp[this];congr 1;have gen:∀(ys:Y Nat) s,ys.foldl (λ s (i:Nat)=>bif(p.rules[i]?).any (sN zs day)then s++[(i:Int)]else s) s=s++(ys.filter λi=>(p.rules[i]?).any (sN zs day)).map λ(i:Nat)=>(i:Int):=by
  intro ys
  induction ys with
  |nil=>intro s;simp
  |cons y ys ih=>
   intro s;rw[foldl_cons,ih,List.filter_cons];cases (p.rules[y]?).any (sN zs day)<;>simp
 exact gen (List.range p.rules.length) [];rw[List.length_range]at hi;rw[List.getElem_range];obtain⟨o1,o2⟩:=hr _ (getElem_mem hi);have ap:bF s.length s.length (sub ([(i:Nat)]:Y Int) 0 1).length 1 8=true:=bV (n:=1) (by omega) (by simp[maxLen];omega);have eg:(p.rules[i]?).any (sN zs day)=sN zs day p.rules[i]:=by rw[dI hi];rfl
 rw[eg];simp only[tu,cK hi,aj,aO hi,ai,Rz _ zs o1 o2 h3 hn,FT,ap,dV,aH,sN,aZ i];cases decide ((p.rules[i]).from_<=day)<;>cases (p.rules[i]).lr==0<;>cases decide (day<(p.rules[i]).lr)<;>cases V9 p.rules[i] zs<;>refine⟨rfl,?_⟩<;>simp<;>omega
def YN(p:eu):Bool:=decide (0<=p.side/\p.side<=3)&&(decide (0<=p.base/\p.base<=4096)&&(decide (0<=p.num/\p.num<=4096)&&decide (1<=p.den/\p.den<=4096)))
theorem an2(p:eu):YN p=true↔(0<=p.side/\p.side<=3)/\(0<=p.base/\p.base<=4096)/\(0<=p.num/\p.num<=4096)/\(1<=p.den/\p.den<=4096):=by simp[YN]
theorem UD(a b c:Int):oV a b c=some (decide (b<=a/\a<=c)):=by
 unfold oV;by_cases h1:b<=a;have d:decide (b<=a)=true:=by simpa using h1
 rw[d,aj];congr 1;rw[eZ];simp[h1];have d:decide (b<=a)=false:=by simpa using h1
 rw[d,au];congr 1;rw[eZ];simp[h1]
theorem YO(p:eu):BA p=some (YN p):=by unfold BA YN;simp only[UD,ai,FT];generalize decide (0<=p.side/\p.side<=3)=a;generalize decide (0<=p.base/\p.base<=4096)=b;generalize decide (0<=p.num/\p.num<=4096)=c;cases a<;>cases b<;>cases c<;>rfl
theorem Cr{l:Y eu}{Z:(eu×Unit)->J Bool}(p:eu->Bool)(h:∀x∈l,Z (x,())=some (p x))(hl:l.length<1099511627776)(hn:l.length<n):lu n l Z=some (l.any p):=by
 unfold lu;have e:tN n l Z=xP n l Z:=by kernel_rfl
 rw[e,fU p h hl hn,ai,sS]
def FX(b:ax)(l:Y eu):Bool:=ft b&&!(l.any λp=>!YN p)
theorem YP(b:ax) l (hl:l.length<=1000) (hn:2000<=n):BB n b l=some (FX b l):=by unfold BB FX;rw[jM,Cr (λ p=>!YN p) (λ p _=>by show vg p=_;unfold vg;rw[YO];rfl) (by omega) (by omega)];simp only[ai,FT];cases ft b<;>rfl
theorem aiT{a n:Int}(hn:0<n):(if Int.tmod a n<0 then Int.tdiv a n-1 else Int.tdiv a n)=a/n:=by
 have h1:=Int.mul_ediv_add_emod a n;have h2:=Int.emod_nonneg a (by omega:n≠0);have h3:=Int.emod_lt_of_pos a hn;rcases Int.le_total 0 a with h|h;have e1:Int.tmod a n=a%n:=Int.tmod_eq_emod_of_nonneg h;have e2:Int.tdiv a n=a/n:=Int.tdiv_eq_ediv_of_nonneg h;rw[e1,e2,aM (by omega)];obtain⟨b,rfl⟩:∃b,a=-b:=⟨-a,by omega⟩;have hb:0<=b:=by omega
 have e1:Int.tmod (-b) n=-(b%n):=by rw[Int.neg_tmod,Int.tmod_eq_emod_of_nonneg hb]
 have e2:Int.tdiv (-b) n=-(b/n):=by rw[Int.neg_tdiv,Int.tdiv_eq_ediv_of_nonneg hb]
 have g1:=Int.mul_ediv_add_emod b n;have g2:=Int.emod_nonneg b (by omega:n≠0);have g3:=Int.emod_lt_of_pos b hn;rw[e1,e2];by_cases hm:b%n=0;rw[aM (by omega)];have:(-b)/n=-(b/n):=by refine(Int.ediv_eq_iff_of_pos hn).2 ?_;constructor;rw[Int.neg_mul,Int.mul_comm (b/n)];omega;rw[Int.neg_mul,Int.mul_comm (b/n)];omega
 omega;rw[aP (by omega)];have:(-b)/n=-(b/n)-1:=by refine(Int.ediv_eq_iff_of_pos hn).2 ?_;constructor;rw[Int.sub_mul,Int.neg_mul,Int.mul_comm (b/n)];omega;rw[Int.sub_mul,Int.neg_mul,Int.mul_comm (b/n)];omega
 omega
theorem Pz{a n:Int}(hn:0<n)(ha: -4611686018427387904<=a/\a<=4611686018427387904):vk a n=some (a/n):=by
 have nz:(n !=0)=true:=by simp;omega
 have hb: -4611686018427387904<=a/n/\a/n<=4611686018427387904:=by
  constructor;rw[Int.le_ediv_iff_mul_le hn];have: -4611686018427387904*n<=-4611686018427387904:=by omega
  omega;rcases Int.le_total 0 a with h|h;have:=Int.ediv_le_self n h;omega;have:a/n<=0:=by have:=(Int.ediv_lt_iff_lt_mul (a:=a) (b:=1) hn).2 (by omega);omega
  omega
 have hf:=aiT (a:=a) hn;have ht: -4611686018427387904<=Int.tdiv a n/\Int.tdiv a n<=4611686018427387905:=by split at hf<;>omega
 unfold vk;simp[nz];rw[bP (x:=Int.tdiv a n),bP (x:=Int.tdiv a n-1),<- hf];by_cases h:Int.tmod a n<0;have d:decide (Int.tmod a n<0)=true:=by simpa using h
 rw[d,aP h];rfl;have d:decide (Int.tmod a n<0)=false:=by simpa using h
 rw[d,aM h];rfl
def YQ(b:ax)(side x y:Int):Int:=if side=0 then x-b.x0 else if side=1 then b.x1-1-x else if side=2 then y-b.y0 else b.y1-1-y
def arR(b:ax)(p:eu)(x y:Int):Int:=p.base+p.num*YQ b p.side x y/p.den
def zr(b:ax)(l:Y eu)(x y:Int):Int:=l.foldl (λ h p=>min h (arR b p x y)) 4096
abbrev InG(x y:Int):Prop:=(0<=x/\x<1048576)/\(0<=y/\y<1048576)
theorem agr{b:ax}(hb:ft b=true){x y:Int}(h:InG x y) side: -1048576<=YQ b side x y/\YQ b side x y<=1048576:=by simp at hb;obtain⟨h1,h2⟩:=h;unfold YQ;split;omega;split;omega;split<;>omega
theorem alF{a d:Int}(ha:0<=a/\a<=4096)(hd: -1048576<=d/\d<=1048576): -4294967296<=a*d/\a*d<=4294967296:=by have h1:a*d<=a*1048576:=Int.mul_le_mul_of_nonneg_left hd.2 ha.1;have h2:a*(-1048576)<=a*d:=Int.mul_le_mul_of_nonneg_left hd.1 ha.1;omega
theorem alG{a n:Int}(hn:0<n)(ha: -4294967296<=a/\a<=4294967296): -4294967296<=a/n/\a/n<=4294967296:=by constructor;rw[Int.le_ediv_iff_mul_le hn];omega;rcases Int.le_total 0 a with h|h;have:=Int.ediv_le_self n h;omega;have:=(Int.ediv_lt_iff_lt_mul (a:=a) (b:=1) hn).2 (by omega);omega
theorem ad1{b:ax}{l:Y eu}{x y:Int}(hb:ft b=true)(hp:∀p∈l,YN p=true)(h:InG x y)(hl:l.length<=1000)(hn:2000<=n):KM n b l x y=some (zr b l x y):=by
 unfold KM yC;have hr:=hb;simp at hr;obtain⟨h1,h2⟩:=h;rw[bP (x:=x-b.x0),bP (x:=b.x1-1),bP (x:=b.x1-1-x),bP (x:=y-b.y0),bP (x:=b.y1-1),bP (x:=b.y1-1-y)];simp;have:=gH (l:=l) (step:=y7 b l x y ⟨x-b.x0,b.x1-1-x,y-b.y0,b.y1-1-y⟩) (λ i s=>(s,(i:Nat))) (λ p s=>min s (arR b p x y)) (λ s=>s) (λ i hi s=>?_) (λ s=>by simp[y7]) n (by omega) 4096;rw[fm]at this;rw[this];rfl;obtain⟨s1,s2,s3,s4⟩:=(an2 _).1 (hp _ (getElem_mem hi));have ib:cV (l[i]).side 4=true:=by simp[cV];omega
 have g:bx ([x-b.x0,b.x1-1-x,y-b.y0,b.y1-1-y]:Y Int) (l[i]).side=some (YQ b (l[i]).side x y):=by
  have hs:(l[i]).side=0\/(l[i]).side=1\/(l[i]).side=2\/(l[i]).side=3:=by omega
  rcases hs with e|e|e|e<;>rw[e]<;>simp[bx,YQ]
 have db:=agr hb ⟨h1,h2⟩ (l[i]).side;have mb:=alF s3 db;have dv:=alG (n:=(l[i]).den) (by omega) mb;simp only[y7,cK hi,aj,aO hi,ai,ib,g];rw[bP (x:=(l[i]).num*YQ b (l[i]).side x y),Pz (by omega) (by omega)];simp only[ai];rw[bP (x:=(l[i]).base+_),aL (by omega)];rfl
theorem ags(b:ax) l:FX b l=true↔ft b=true/\∀p∈l,YN p=true:=by unfold FX;rw[aT,Bool.not_eq_true',List.any_eq_false];simp
def If(x:gJ):Bool:=decide (x.z0<0) || (decide (x.z0>=x.z1) || (decide (x.z1>4096) || (decide (x.area=[]) || !da x.area)))
def CL(p:J gJ×gJ):Bool:=If p.2 || p.1.any λq=>decide (q.z1>p.2.z0) || (q.z1==p.2.z0&&decide (q.area=p.2.area))
def Cs(s:Y gJ):Y (Option gJ×gJ):=(none::s.map some).zip s
def FY(s:Y gJ):Bool:=decide (s.length<=80)&&!((Cs s).any CL)
theorem qP s:(Cs s).length=s.length:=by simp[Cs]
theorem FZ{s:Y gJ}{i:Nat}(h:i<(Cs s).length):(Cs s)[i]=(if h0:i=0 then none else some (s[i-1]'(by rw[qP]at h;omega)),s[i]'(by rw[qP]at h;exact h)):=by
 simp[Cs];cases i with
 |zero|succ i=>simp
theorem Uc{s:Y gJ}(ha:∀x∈s,x.area.length<=900)(hn:1000<=n):Ju n s=some (FY s):=by
 unfold Ju FY;by_cases h80:s.length<=80;have d:decide ((s.length:Int)>80)=false:=by simp;omega
 have d2:decide (s.length<=80)=true:=by simpa using h80
 have z:∀l:Y ax,(((l.length:Int))==0)=decide (l=[]):=λl=>by cases l<;>simp<;>omega
 have:=kI (l:=Cs s) (step:=BD n s) (λ i=>(i:Nat)) CL () (λ _=>false) (λ i hi=>?_) ?_ n (by rw[qP];omega);rw[fm]at this;rw[d,d2,this,<- Ru];cases nM CL (Cs s)<;>rfl;rw[FZ];rw[qP]at hi;have hi':decide ((i:Int)<s.length)=true:=by simpa using hi
 have h1:=ha _ (getElem_mem hi);simp only[BD,hi',aj,aO hi,ai,z,jr (n:=n) (l:=s[i].area) (by omega) (by omega) hn,CL];rw[aL (by omega)];have b:((bif decide (s[i].z0<0)then some true else bif decide (s[i].z0>=s[i].z1)then some true else bif decide (s[i].z1>4096)then some true else bif decide (s[i].area=[])then some true else some (!da s[i].area)):J Bool)=some (If s[i]):=by unfold If;cases decide (s[i].z0<0)<;>cases decide (s[i].z0>=s[i].z1)<;>cases decide (s[i].z1>4096)<;>cases decide (s[i].area=[])<;>rfl
 rw[b];simp;cases If s[i]with
 |true=>simp
 |false=>
  by_cases h0:i=0;subst h0;have:(((0:Nat))==0)=true:=rfl;simp;have e0:((i:Int)==0)=false:=by simp;omega
  have w:i64.wrap (i-1)=(i-1:Nat):=nU (by omega) (by omega);have h2:=ha _ (getElem_mem (show i-1<s.length by omega));simp[e0,w,aO (show i-1<s.length by omega),aiJ (n:=n) (a:=s[i-1].area) (b:=s[i].area) (by omega) (by omega),h0];cases decide (s[i-1].z1>s[i].z0)with
  |true=>simp
  |false=>
   cases s[i-1].z1==s[i].z0 with
   |false=>simp
   |true=>cases decide (s[i-1].area=s[i].area)<;>simp
 rw[qP];simp[BD];have d:decide ((s.length:Int)>80)=true:=by simp;omega
 have d2:decide (s.length<=80)=false:=by simpa using h80
 rw[d,d2];rfl
structure an3(x:gJ):Prop where
 lo:0<=x.z0
 lt:x.z0<x.z1
 hi:x.z1<=4096
 ne:x.area≠[]
 rt:da x.area=true
def arS(s:Y gJ):Prop:=∀i (h:i+1<s.length),s[i].z1<=s[i+1].z0/\¬(s[i].z1=s[i+1].z0/\s[i].area=s[i+1].area)
theorem agu(x:gJ):If x=false↔an3 x:=by unfold If;simp;constructor;rintro⟨h1,h2,h3,h4,h5⟩;exact⟨by omega,by omega,by omega,h4,h5⟩;rintro⟨h1,h2,h3,h4,h5⟩;exact⟨by omega,by omega,by omega,h4,h5⟩
theorem YR s:FY s=true↔s.length<=80/\(∀ x∈s,an3 x)/\arS s:=by
 unfold FY;rw[aT,bf,Bool.not_eq_true',List.any_eq_false];refine and_congr_right λ_=>?_;constructor;intro h;have key:∀i (hi:i<s.length),CL ((Cs s)[i]'(by rw[qP];exact hi))=false:=λi hi=>by have:=h _ (getElem_mem (show i<(Cs s).length by rw[qP];exact hi));simpa using this
 refine⟨λ x hx=>?_,λi hi=>?_⟩;obtain⟨i,hi,rfl⟩:=mem_iff_getElem.1 hx;have:=key i hi;rw[FZ]at this;unfold CL at this;rw[Bool.or_eq_false_iff]at this;exact(agu _).1 this.1;have:=key (i+1) hi;rw[FZ]at this;unfold CL at this;rw[Bool.or_eq_false_iff]at this;have h2:=this.2;simp only[Nat.succ_ne_zero,dif_neg,not_false_eq_true,Option.any_some,Nat.add_sub_cancel,Bool.or_eq_false_iff,fw,Bool.and_eq_false_iff,beq_eq_false_iff_ne]at h2;refine⟨by omega,λ⟨e1,e2⟩=>?_⟩;rcases h2.2 with h3|h3;exact h3 e1;exact h3 e2;rintro⟨h1,h2⟩ p hp;obtain⟨i,hi,rfl⟩:=mem_iff_getElem.1 hp;rw[FZ];rw[qP]at hi;unfold CL;have hb:=(agu _).2 (h1 _ (getElem_mem hi));by_cases h0:i=0;simp[h0]at hb |-;exact hb;obtain⟨j,rfl⟩:∃j,i=j+1:=⟨i-1,by omega⟩;have⟨n1,n2⟩:=h2 j hi;simp only[Nat.succ_ne_zero,dif_neg,not_false_eq_true,Option.any_some,Nat.add_sub_cancel];rw[hb];simp only[Bool.false_or,Bool.or_eq_true,bf,aT,beq_iff_eq];rintro (h|h);omega;exact n2 h
theorem uo{l:Y gJ}{Z:(gJ×Unit)->J Bool}(p:gJ->Bool)(h:∀x∈l,Z (x,())=some (p x))(hl:l.length<1099511627776)(hn:l.length<n):jo n l Z=some (l.any p):=by
 unfold jo vo;have:=kI (l:=l) (step:=mQ l Z) (λ i=>(i:Nat)) p () (λ i=>(i:Nat)) (λ i hi=>?_) (by simp[mQ]) n hn;rw[fm]at this;rw[this,<- Ru];cases nM p l with
 |none=>rfl
 |some i=>simp<;>omega
 have hi':decide ((i:Int)<l.length)=true:=by simpa using hi
 simp only[mQ,hi',aj,aO hi,ai,h _ (getElem_mem hi)];rw[aL (by omega)];cases p l[i]<;>rfl
def SM(s:Y gJ)(lot:Int)(e:lN):Bool:=e.lot==lot&&(da e.area&&s.any λc=>decide (c.z1>e.top)&&PF c.area e.area)
def PA(l:Y lN)(lot:Int)(s:Y gJ):Bool:=FY s&&!(l.any (SM s lot))
theorem aaH{l:Y lN}{lot:Int}{s:Y gJ}(hl:l.length<=900)(he:∀e∈l,e.area.length<=900)(ha:∀x∈s,x.area.length<=900)(hn:1000<=n):FL n l lot s=some (PA l lot s):=by
 unfold FL PA;rw[Uc ha hn];simp;cases hr:FY s with
 |false=>rfl
 |true=>
 have l80:=((YR s).1 hr).1;have:=kI (l:=l) (step:=xC n l lot s) (λ i=>(i:Nat)) (SM s lot) () (λ _=>false) (λ i hi=>?_) (by simp[xC]) n (by omega);rw[fm]at this;simp;rw[this,<- Ru];cases nM (SM s lot) l<;>rfl;have hi':decide ((i:Int)<l.length)=true:=by simpa using hi
 have h1:=he _ (getElem_mem hi);have cf:=uo (n:=n) (l:=s) (Z:=λy:gJ×Unit=>sK n y.1 l[i]) (λ c=>decide (c.z1>l[i].top)&&PF c.area l[i].area) (λ c hc=>by have:=ha c hc;show sK n c l[i]=_;unfold sK;rw[aiI (by omega) (by omega) (by omega) (by omega)];cases decide (c.z1>l[i].top)<;>rfl) (by omega) (by omega);simp only[xC,hi',aj,aO hi,ai,jr (n:=n) (l:=l[i].area) (by omega) (by omega) hn,cf];rw[aL (by omega)];unfold SM;cases h2:l[i].lot==lot with
 |false=>
  have:(l[i].lot !=lot)=true:=by simp[bne,h2]
  simp[this]
 |true=>
  have:(l[i].lot !=lot)=false:=by simp[bne,h2]
  simp[this];cases da l[i].area with
  |false=>simp
  |true=>cases s.any λc=>decide (c.z1>l[i].top)&&PF c.area l[i].area<;>simp
theorem agx(r:ax):ft r=true↔(0<=r.x0/\r.x0<r.x1/\r.x1<=1048576)/\(0<=r.y0/\r.y0<r.y1/\r.y1<=1048576):=by simp;omega
theorem K4{b:ax}{l:Y eu}(r:ax) x (hb:ft b=true) (hp:∀p∈l,YN p=true) (hr:ft r=true) (hx:0<=x/\x<1048576) (hl:l.length<=1000) (hn:2000<=n) v:
 iter (pO n b l r x) n (v,0)=some (min (min v (zr b l x r.y0)) (zr b l x (r.y1-1))):=by
 have ho:=(agx r).1 hr;have w:i64.wrap (r.y1-1)=r.y1-1:=bP (by omega) (by omega);have:=gH (l:=[r.y0,r.y1-1]) (step:=pO n b l r x) (λ i s=>(s,(i:Nat))) (λ y m=>min m (zr b l x y)) (λ s=>s) (λ i hi s=>?_) (λ s=>by simp[pO]) n (by simp;omega) v;rw[fm]at this;exact this;have h2:i<2:=by simpa using hi
 have yb:0<=([r.y0,r.y1-1]:Y Int)[i]/\([r.y0,r.y1-1]:Y Int)[i] <1048576:=by rcases i with _|_|i;simp;omega;simp;omega;omega
 simp only[pO,cK h2,aj,aV h2,w,bJ hi,ai,ad1 hb hp ⟨hx,yb⟩ hl hn,aZ i]
def aqY(b:ax)(l:Y eu)(v:Int)(r:ax):Int:=min (min (min (min v (zr b l r.x0 r.y0)) (zr b l r.x0 (r.y1-1))) (zr b l (r.x1-1) r.y0)) (zr b l (r.x1-1) (r.y1-1))
theorem K5{b:ax}{l:Y eu}(r:ax)(hb:ft b=true)(hp:∀p∈l,YN p=true)(hr:ft r=true)(hl:l.length<=1000)(hn:2000<=n) v:
 iter (pQ n b l r) n (v,0)=some (aqY b l v r):=by
 have ho:=(agx r).1 hr;have w:i64.wrap (r.x1-1)=r.x1-1:=bP (by omega) (by omega);have:=gH (l:=[r.x0,r.x1-1]) (step:=pQ n b l r) (λ i s=>(s,(i:Nat))) (λ x m=>min (min m (zr b l x r.y0)) (zr b l x (r.y1-1))) (λ s=>s) (λ i hi s=>?_) (λ s=>by simp[pQ]) n (by simp;omega) v;rw[fm]at this;exact this;have h2:i<2:=by simpa using hi
 have xb:0<=([r.x0,r.x1-1]:Y Int)[i]/\([r.x0,r.x1-1]:Y Int)[i] <1048576:=by rcases i with _|_|i;simp;omega;simp;omega;omega
 simp only[pQ,cK h2,aj,aV h2,w,bJ hi,ai,K4 r _ hb hp hr xb hl hn,aZ i]
def SJ(b:ax)(l:Y eu)(a:Y ax):Int:=a.foldl (aqY b l) 4096
theorem UE{b:ax}{l:Y eu}{a:Y ax}(hb:ft b=true)(hp:∀p∈l,YN p=true)(ha:∀r∈a,ft r=true)(hal:a.length<=1000)(hl:l.length<=1000)(hn:2000<=n):y8 n b l a=some (SJ b l a):=by unfold y8;have:=gH (l:=a) (step:=tC n b l a) (λ i s=>(s,(i:Nat))) (λ r m=>aqY b l m r) (λ s=>s) (λ i hi s=>?_) (λ s=>by simp[tC]) n (by omega) 4096;rw[fm]at this;rw[this];rfl;simp only[tC,cK hi,aj,aO hi,ai,K5 a[i] hb hp (ha _ (getElem_mem hi)) hl hn,aZ i]
theorem apO(r:ax):ft r=true↔(0<=r.x0/\r.x0<r.x1/\r.x1<=1048576)/\(0<=r.y0/\r.y0<r.y1/\r.y1<=1048576):=by simp;omega
abbrev CI(t:fM):Prop:=t.area.length<=900/\t.from_.length*8<=140737488355328
theorem aiU{t:fM}(h:CI t):DZ t=some t:=by unfold DZ;have h2:=h.2;rw[D9 (by omega),ai,show q9 t.from_=some t.from_ from qH (b:=8) (by omega) (by simp[maxLen];omega),ai];simp
theorem acy{land:Y fM}{id:Int}(h:∀t∈land,CI t)(hl:land.length<1099511627776)(hn:land.length<n):rf n land id=some (dH land id):=by
 unfold rf;have:=kI (l:=land) (step:=tL land id) (λ i=>i) (λ t=>t.id==id) () (λ i=>(land.getD i PC,true)) (λ i hi=>?_) ?_ n hn;rw[fm]at this;rw[this];unfold dH;rcases M4 (λ t:fM=>t.id==id) land with ⟨i,hi,h1,h2⟩|⟨h1,h2⟩;rw[h1,h2];simp[hi];rw[h1,h2];rfl;simp only[tL,cK hi,aj,aO hi,ai,aiU (h _ (getElem_mem hi))];cases land[i].id==id with
 |true=>simp[hi]
 |false=>simp only[au];rw[aL (by omega)]
 simp[tL]
theorem RB{land:Y fM}(h:∀t∈land,CI t) id:CI (dH land id).1:=by unfold dH;split;rename_i t ht;exact h t (List.mem_of_find?_eq_some ht);simp[CI,PC]
structure asC(t:fq):Prop where
 rules:t.az.length<=20
 W7:∀r∈t.az,aiS r
 zones:t.cz.length<=20
 land:t.land.length<=20
 lots:∀l∈t.land,CI l
 cM:t.cM.length<=5
 asY:∀e∈t.cM,e.area.length<=10
theorem Ud{α:Type}(p:α->Bool):∀l:Y α,((List.range l.length).filter λi=>(l[i]?).any p).filterMap (λ i=>l[i]?)=l.filter p
 |[]=>rfl
 |a::l=>by
  have ih:=Ud p l;rw[d9,List.range_succ_eq_map,List.filter_cons,List.filter_cons];have e:(List.filter (λ i=>((a::l)[i]?).any p) (List.map Nat.succ (List.range l.length))).filterMap (λ i=>(a::l)[i]?)=l.filter p:=by rw[List.filter_map,List.filterMap_map];exact ih
  cases hp:p a with
  |true|false=>simp[hp];simpa using e
def IH(a r:ax):ax:=⟨min a.x0 r.x0,min a.y0 r.y0,max a.x1 r.x1,max a.y1 r.y1⟩
def akq:Y ax->ax
 |[]=>⟨0,0,0,0⟩
 |r::l=>l.foldl IH r
def Wh(a:Y ax):ax×Bool:=bif decide (a≠[])&&da a then(akq a,true)else(⟨0,0,0,0⟩,false)
theorem agz{a:Y ax}(ha:a≠[])(hv:∀r∈a,ft r=true)(hl:a.length<=900)(hn:2000<=n):Pf n a=some (akq a,true):=by
 unfold Pf;have:=gH (l:=a.zip (List.range a.length)) (step:=Bz a) (λ i (s:Bool×Int×Int×Int×Int)=>(s.1,(i:Nat),s.2)) (λ p s=>bif !s.1 then(true,p.1.x0,p.1.y0,p.1.x1,p.1.y1)else(s.1,min s.2.1 p.1.x0,min s.2.2.1 p.1.y0,max s.2.2.2.1 p.1.x1,max s.2.2.2.2 p.1.y1)) (λ s=>s) (λ i hi s=>?_) (λ s=>?_) n (by simp;omega) (false,0,0,0,0);rw[fm]at this;simp only at this;rw[this];cases a with
 |nil=>exact absurd rfl ha
 |cons r l=>
  have gen:∀(l:Y ax)(k:Y Nat)(s:ax),l.length<=k.length->(l.zip k).foldl (λ (s:Bool×Int×Int×Int×Int) p=>bif !s.1 then(true,p.1.x0,p.1.y0,p.1.x1,p.1.y1)else(s.1,min s.2.1 p.1.x0,min s.2.2.1 p.1.y0,max s.2.2.2.1 p.1.x1,max s.2.2.2.2 p.1.y1)) (true,s.x0,s.y0,s.x1,s.y1)=(true,(l.foldl IH s).x0,(l.foldl IH s).y0,(l.foldl IH s).x1,(l.foldl IH s).y1):=by
   intro l
   induction l with
   |nil=>intro k s _;rfl
   |cons r l ih=>
    intro k s hk;cases k with
    |nil=>simp at hk
    |cons j k=>
     rw[List.zip_cons_cons,foldl_cons,foldl_cons];exact ih k (IH s r) (by simpa using hk)
  rw[d9,List.range_succ_eq_map,List.zip_cons_cons,foldl_cons];simp only[Bool.not_false,aj];rw[gen l _ r (by simp)];rfl
 have hi':i<a.length:=by simpa using hi
 obtain⟨s1,s2,s3,s4,s5⟩:=s;have ok:=hv _ (getElem_mem hi');simp only[Bz,cK hi',aj,aO hi',ai,jM,ok,Bool.not_true,au,FT,List.getElem_zip,aZ i];obtain⟨s1,s2,s3,s4,s5⟩:=s;have:(a.zip (List.range a.length)).length=a.length:=by simp
 simp[Bz]
theorem ad2 a (hl:a.length<=900) (hn:2000<=n):KL n a=some (Wh a):=by
 unfold KL Wh;cases a with
 |nil=>rfl
 |cons r l=>
  have e:((((r::l).length:Nat):Int)==0)=false:=by simp;omega
  have e2:decide (r::l≠[])=true:=by simp
  rw[jr (by omega) (by omega) (by omega),e,e2];simp;cases hr:da (r::l)with
  |false=>rfl
  |true=>
   simp;rw[agz (by simp) (vE hr).1 hl hn];rfl
structure asE(X Y:List Int)(es:List lN):Prop where
 ok:∀e∈es,da e.area=true
 x0:∀e∈es,∀c∈e.area,c.x0∈X
 x1:∀e∈es,∀c∈e.area,c.x1∈X
 y1:∀e∈es,∀c∈e.area,c.y1∈Y
 len:∀e∈es,e.area.length<=200
 size:X.length*Y.length<=200000
theorem KQ{α W O:Type}{l:Y α}{step:Int->J (Int⊕(W⊕O))}(p:α->Bool)(w:W)(o:O)
 (h:∀i (hi:i<l.length),step i=some (bif p l[i]then .inr (.inr o)else .inl (i+1:Nat)))
 (hend:step l.length=some (.inr (.inl w))) (n:Nat) (hn:l.length<n):iter step n 0=some (bif l.any p then .inr o else .inl w):=by have:=kI (l:=l) (step:=step) (λ i=>(i:Nat)) p w (λ _=>o) h hend n hn;rw[fm]at this;rw[this,<- jW];cases nM p l<;>rfl
def SD(t:fq):Bool:=
 (decide (t.az.length<=10)&&(decide (t.cz.length<=6)&&(decide (t.cL.length<=20)&&(decide (t.cw.length<=20)&&(decide (t.land.length<=5)&&(decide (t.cM.length<=5)&&decide (t.built.length<=6)))))))&&
 (!(t.az.any λr=>decide (r.zones.length>5) || decide (r.except.length>5))&&(!(t.land.any λl=>decide (l.area.length>10))&&!(t.cM.any λe=>decide (e.area.length>10))))
theorem arT{a b:Nat}:decide ((a:Int)>b)=!decide (a<=b):=by
 by_cases h:a<=b;have:¬(a>b):=by omega
 simp[h];have:a>b:=by omega
 simp[this]
theorem aiV(t:fq)(hn:2000<=n):VZ n t=some (SD t):=by
 unfold VZ SD;simp only[show (10:Int)=((10:Nat):Int)from rfl,show(6:Int)=((6:Nat):Int)from rfl,show(20:Int)=((20:Nat):Int)from rfl,show(5:Int)=((5:Nat):Int)from rfl,arT,FT,ai];cases hA:(decide (t.az.length<=10)&&(decide (t.cz.length<=6)&&(decide (t.cL.length<=20)&&(decide (t.cw.length<=20)&&(decide (t.land.length<=5)&&(decide (t.cM.length<=5)&&decide (t.built.length<=6)))))))with
 |false=>
  have e:(bif !decide (t.az.length<=10)then true else bif !decide (t.cz.length<=6)then true else bif !decide (t.cL.length<=20)then true else bif !decide (t.cw.length<=20)then true else bif !decide (t.land.length<=5)then true else bif !decide (t.cM.length<=5)then true else !decide (t.built.length<=6))=true:=by revert hA;cases decide (t.az.length<=10)<;>cases decide (t.cz.length<=6)<;>cases decide (t.cL.length<=20)<;>cases decide (t.cw.length<=20)<;>cases decide (t.land.length<=5)<;>cases decide (t.cM.length<=5)<;>cases decide (t.built.length<=6)<;>simp
  rw[e];rfl
 |true=>
  have e:(bif !decide (t.az.length<=10)then true else bif !decide (t.cz.length<=6)then true else bif !decide (t.cL.length<=20)then true else bif !decide (t.cw.length<=20)then true else bif !decide (t.land.length<=5)then true else bif !decide (t.cM.length<=5)then true else !decide (t.built.length<=6))=false:=by revert hA;cases decide (t.az.length<=10)<;>cases decide (t.cz.length<=6)<;>cases decide (t.cL.length<=20)<;>cases decide (t.cw.length<=20)<;>cases decide (t.land.length<=5)<;>cases decide (t.cM.length<=5)<;>cases decide (t.built.length<=6)<;>simp
  simp at hA;rw[e];simp;rw[KQ (l:=t.az) (λ r=>decide (r.zones.length>5) || decide (r.except.length>5)) () false (λ i hi=>?_) (by simp[MS]) n (by omega)];cases (t.az.any λr=>decide (r.zones.length>5) || decide (r.except.length>5))with
  |true=>rfl
  |false=>
   simp;rw[KQ (l:=t.land) (λ l=>decide (l.area.length>10)) () false (λ i hi=>?_) (by simp[MU]) n (by omega)];cases (t.land.any λl=>decide (l.area.length>10))with
   |true=>rfl
   |false=>
    simp;rw[KQ (l:=t.cM) (λ e=>decide (e.area.length>10)) () false (λ i hi=>?_) (by simp[MV]) n (by omega)];cases (t.cM.any λe=>decide (e.area.length>10))<;>rfl;have d:decide ((((t.cM[i]).area.length:Nat):Int)>10)=decide ((t.cM[i]).area.length>10):=(by rw[eZ,bf,bf];omega);simp only[MV,cK hi,aj,aO hi,ai,d,Option.map_some,FT,aZ i]
   have d:decide ((((t.land[i]).area.length:Nat):Int)>10)=decide ((t.land[i]).area.length>10):=(by rw[eZ,bf,bf];omega);simp only[MU,cK hi,aj,aO hi,ai,d,Option.map_some,FT,aZ i]
  have d1:decide ((((t.az[i]).zones.length:Nat):Int)>5)=decide ((t.az[i]).zones.length>5):=by rw[eZ,bf,bf];omega
  have d2:decide ((((t.az[i]).except.length:Nat):Int)>5)=decide ((t.az[i]).except.length>5):=by rw[eZ,bf,bf];omega
  simp only[MS,cK hi,aj,aO hi,ai,d1,d2,Option.map_some,FT,aZ i];cases decide ((t.az[i]).zones.length>5)<;>cases decide ((t.az[i]).except.length>5)<;>rfl
theorem KR{V O:Type}{step:V->J (V⊕O)}(f:Nat->V){s:V}(N:Nat)(o:O)(h0:s=f 0)
 (h1:∀i,i<N->step (f i)=some (.inl (f (i+1)))) (h2:step (f N)=some (.inr o)) (n:Nat) (hn:N<n):iter step n s=some o:=by rw[h0];exact fV f N o h1 h2 n hn
def tb(f:Nat->Nat->Bool):Y Bool:=(List.range 144).map λi=>f (i/12) (i%12)
def upd(f:Nat->Nat->Bool)(a b:Nat)(v:Bool):Nat->Nat->Bool:=λx y=>if x=a/\y=b then v else f x y
inductive Tc(e:Nat->Nat->Bool):Nat->Nat->Prop
 |one {a b:Nat}:a<12->b<12->e a b=true->Tc e a b
 |trans {a b c:Nat}:Tc e a b->Tc e b c->Tc e a c
theorem Tc.lt{e:Nat->Nat->Bool}{a b:Nat}(h:Tc e a b):a<12/\b<12:=by
 induction h with
 |one h1 h2 _=>exact⟨h1,h2⟩
 |trans _ _ i1 i2=>exact⟨i1.1,i2.2⟩
def iC(v:aG):ax:=ax.mk v.ct v.cH v.co v.cE
def okV(v:aG):Bool:=ft (iC v)&&(decide (0<=v.fi)&&(decide (v.fi<v.ez)&&(decide (v.ez<=4096)&&((decide (v.use=0) || decide (v.units=0))&&(decide (0<=v.use)&&(decide (v.use<6)&&(decide (0<=v.units)&&decide (v.units<=1048576))))))))
theorem vH(v:aG):gB v=some (okV v):=by
 unfold gB okV;rw[jM];have e1:decide (v.fi<0)=!decide (0<=v.fi):=by rw[<- decide_not,decide_eq_decide];omega
 have e2:decide (v.fi>=v.ez)=!decide (v.fi<v.ez):=by rw[<- decide_not,decide_eq_decide];omega
 have e3:decide (v.ez>4096)=!decide (v.ez<=4096):=by rw[<- decide_not,decide_eq_decide];omega
 have e4:(v.use !=0)=!decide (v.use=0):=by by_cases h:v.use=0<;>simp[h]
 have e5:(v.units !=0)=!decide (v.units=0):=by by_cases h:v.units=0<;>simp[h]
 rw[e1,e2,e3,e4,e5,show ax.mk v.ct v.cH v.co v.cE=iC v from rfl];simp;generalize ft (iC v)=a1;generalize decide (0<=v.fi)=a2;generalize decide (v.fi<v.ez)=a3;generalize decide (v.ez<=4096)=a4;generalize decide (v.use=0)=a5;generalize decide (v.units=0)=a6;generalize decide (0<=v.use)=a7;generalize decide (v.use<6)=a8;generalize decide (0<=v.units)=a9;generalize decide (v.units<=1048576)=lj;cases a1<;>cases a2<;>cases a3<;>cases a4<;>cases a5<;>cases a6<;>cases a7<;>cases a8<;>cases a9<;>rfl
theorem YS{v:aG}(h:okV v=true):ft (iC v)=true:=by rw[okV,aT]at h;exact h.1
def lH(d:aQ):Y aG:=d.phases.flatMap (·.b9)
theorem fp{l:Y lI}(h:∀p∈l,p.b9.length<=1000):(l.flatMap (·.b9)).length<=l.length*1000:=by
 induction l with
 |nil=>simp
 |cons p l ih=>
  have h1:=h p (by simp);have h2:=ih λq hq=>h q (by simp[hq]);simp only[List.flatMap_cons,eU,d9];omega
def UF(d:aQ):Prop:=d.phases.length<=1000/\∀p∈d.phases,p.b9.length<=1000
theorem YT{d:aQ}(h:UF d)(hn:1001<=n):pK n d 0 d.phases.length=some (lH d):=by
 obtain⟨h1,h2⟩:=h;unfold pK;have key:=KR (step:=oN d 0 d.phases.length) (λ i=>(i,(d.phases.take i).flatMap (·.b9))) (s:=(0,[])) d.phases.length (lH d) rfl (λ i hi=>by
  have e2:decide (i>=0)=true:=by simp
  have hl:=fp (l:=d.phases.take i) λp hp=>h2 p (List.mem_of_mem_take hp);rw[length_take]at hl;have hv:=h2 _ (getElem_mem hi);generalize hL:(d.phases.take i).flatMap (·.b9)=L at hl;have hap:bF L.length L.length d.phases[i].b9.length d.phases[i].b9.length 72=true:=bV (by omega) (by simp[maxLen];omega);simp only[oN,cK hi,aj,aO hi,ai,e2,hap,dV,aH,aZ i];rw[iY hi,List.flatMap_append,hL];simp) (by simp[oN,lH]) n (by omega)
 have hz:aE 0 ([]:Y aG).length=true:=rfl;simp[key]
def PQ(v:aG):Int:=(lQ v).getD 0
theorem YU(v:aG):lQ v=some (PQ v):=by unfold PQ lQ;rw[vH];cases v.extra<;>cases okV v<;>rfl
def RD(v:aG):Int:=(p9 v).getD 0
theorem agB(v:aG):p9 v=some (RD v):=by
 unfold RD p9;rw[vH,YU];cases h:okV v with
 |false=>rfl
 |true=>
  have e:=Ee (YS h);unfold iC at e;simp[e]
def H5(f:aG->Int)(l:Y aG):Int:=l.foldl (λ s v=>i64.wrap (s+f v)) 0
def Sx(f:aG->Int)(l:Y aG):Int:=l.foldl (λ s v=>max s (f v)) 0
theorem aqZ a1 a8 {a9:Y aG} (hl:a9.length<=1000) (hn:1001<=n):∀a0 a2 a3 a4 a5 a6 a7,kZ n a0 a1 a2 a3 a4 a5 a6 a7 a8 a9=some (H5 RD a9,a0,a1,a2,a3,a4,a5,a6,a7,a8,a9):=by have key:=gH (l:=a9) (step:=jX a9) (λ i s=>(s,i)) (λ v s=>i64.wrap (s+RD v)) (λ s=>s) (λ i hi s=>by simp only[jX,cK hi,aj,aV hi,bJ hi,ai,agB,aZ i]) (λ s=>by simp[jX]) n (by omega) 0;rw[fm]at key;unfold kZ rT;simp only[key,ai,aH,aj];exact λ_ _ _ _ _ _ _=>rfl
theorem aq0 a1 a8 {a9:Y aG} (hl:a9.length<=1000) (hn:1001<=n):∀a0 a2 a3 a4 a5 a6 a7,lg n a0 a1 a2 a3 a4 a5 a6 a7 a8 a9=some (H5 (·.units) a9,a0,a1,a2,a3,a4,a5,a6,a7,a8,a9):=by have key:=gH (l:=a9) (step:=j3 a9) (λ i s=>(s,i)) (λ v s=>i64.wrap (s+v.units)) (λ s=>s) (λ i hi s=>by simp only[j3,cK hi,aj,aV hi,bJ hi,ai,qi,aZ i]) (λ s=>by simp[j3]) n (by omega) 0;rw[fm]at key;unfold lg rU;simp only[key,ai,aH,aj];exact λ_ _ _ _ _ _ _=>rfl
theorem an4 a1 a8 {a9:Y aG} (hl:a9.length<=1000) (hn:1001<=n):∀a0 a2 a3 a4 a5 a6 a7,jY n a0 a1 a2 a3 a4 a5 a6 a7 a8 a9=some (Sx PQ a9,a0,a1,a2,a3,a4,a5,a6,a7,a8,a9):=by have key:=gH (l:=a9) (step:=iw a9) (λ i s=>(s,i)) (λ v s=>max s (PQ v)) (λ s=>s) (λ i hi s=>by simp only[iw,cK hi,aj,aV hi,bJ hi,ai,YU,aZ i]) (λ s=>by simp[iw]) n (by omega) 0;rw[fm]at key;unfold jY nH;simp only[key,ai,aH,aj];exact λ_ _ _ _ _ _ _=>rfl
theorem an5 a1 a8 {a9:Y aG} (hl:a9.length<=1000) (hn:1001<=n):∀a0 a2 a3 a4 a5 a6 a7,jZ n a0 a1 a2 a3 a4 a5 a6 a7 a8 a9=some (Sx (·.ez) a9,a0,a1,a2,a3,a4,a5,a6,a7,a8,a9):=by have key:=gH (l:=a9) (step:=iy a9) (λ i s=>(s,i)) (λ v s=>max s v.ez) (λ s=>s) (λ i hi s=>by simp only[iy,cK hi,aj,aV hi,bJ hi,ai,oO,aZ i]) (λ s=>by simp[iy]) n (by omega) 0;rw[fm]at key;unfold jZ nI;simp only[key,ai,aH,aj];exact λ_ _ _ _ _ _ _=>rfl
theorem alJ(e:bg)(a:KF){u:Int}(h0:0<=u)(h6:u<6):∃b,kQ e a u=some b:=by
 obtain⟨k,rfl⟩:∃k:Nat,u=k:=⟨u.toNat,by omega⟩;have hk:k<6:=by omega
 unfold kQ;rw[aV hk,aO (l:=[a.a0,a.a1,a.a2,a.a3,a.a4,a.a5]) hk];exact⟨_,rfl⟩
theorem F3{l:Y bg}{Z:(bg×Unit)->J Bool}(p:bg->Bool)(h:∀x∈l,Z (x,())=some (p x))(hl:l.length<=9223372036854775807)(hn:l.length<n):jd n l Z=some (yP p l):=Gy p h hl hn
theorem aq1(p:bO){u:Int}(h0:0<=u)(h6:u<6)(ht:p.tables.length<n)(ht2:p.tables.length<=9223372036854775807)(hr:∀t∈p.tables,t.rows.length<n/\t.rows.length<=9223372036854775807):∃r,Bo n p u=some r:=by
 have key:∃o,iter (kR n p u) n 0=some o/\True:=by
  have step:∀i (hi:i<p.tables.length),kR n p u i=some (.inl (i+1:Nat))\/∃z,kR n p u i=some (.inr (.inr z)):=by
   intro i hi;obtain⟨r1,r2⟩:=hr _ (getElem_mem hi);simp only[kR,cK hi,aj,aO hi,ai,aZ i];cases ByteArray.toList p.tables[i].name==ByteArray.toList ⟨#[116,114,97,102,102,105,99]⟩with
   |false=>exact Or.inl rfl
   |true=>
    right;simp;generalize KF.mk _ _ _ _ _ _=A;have hx:=F3 (n:=n) (l:=p.tables[i].rows) (Z:=λy1=>kQ y1.1 A u) (λ e=>(kQ e A u).getD false) (λ e _=>by have⟨b,hb⟩:=alJ e A h0 h6;simp[hb]) r2 r1;rw[hx];simp[sS];cases hany:p.tables[i].rows.any λe=>(kQ e A u).getD false with
    |false=>exact⟨_,rfl⟩
    |true=>
     have⟨j,hj,h1,_⟩:=afJ hany;rw[h1];simp only[aj,aO hj,ai];exact⟨_,rfl⟩
  have main:∀k i m,i+k=p.tables.length->k<m->∃o,iter (kR n p u) m i=some o/\True:=by
   intro k
   induction k with
   |zero=>
    intro i m hi hm;obtain⟨q,rfl⟩:∃q,m=q+1:=⟨m-1,by omega⟩;have:i=p.tables.length:=(by omega);subst this;exact⟨.inl (),fP (by simp[kR]),trivial⟩
   |succ k ih=>
    intro i m hi hm;obtain⟨q,rfl⟩:∃q,m=q+1:=⟨m-1,by omega⟩;rcases step i (by omega)with h|⟨z,h⟩;rw[jP h];exact ih (i+1) q (by omega) (by omega);exact⟨_,fP h,trivial⟩
  exact main p.tables.length 0 n (by omega) ht
 obtain⟨o,h1,_⟩:=key;unfold Bo;rw[h1];cases o with
 |inl w|inr r=>exact⟨_,rfl⟩
theorem aiW(p:bO){v:aG}(hv:okV v=true)(ht:p.tables.length<n)(ht2:p.tables.length<=9223372036854775807)(hr:∀t∈p.tables,t.rows.length<n/\t.rows.length<=9223372036854775807):∃r,jK n p v=some r:=by
 simp[okV]at hv;have⟨r,h1⟩:=aq1 (n:=n) p (u:=v.use) hv.2.2.2.2.2.1 hv.2.2.2.2.2.2.1 ht ht2 hr;unfold jK;rw[h1,agB];simp;have e100:(100 !=0)=true:=rfl;by_cases h:r>0;have e:(r !=0)=true:=by simp;omega
 have e2:decide (r>0)=true:=by simpa using h
 rw[e,e2];simp;cases decide (RD v>i64.wrap (Int.tdiv 109951162777600 r))<;>exact⟨_,rfl⟩;have e2:decide (r>0)=false:=by simpa using h
 rw[e2];exact⟨_,rfl⟩
def aqn(n:Nat)(ts:Y bQ)(v:aG):Int:=(jK n (bO.mk [] ts [] [] [] [] [] 0) v).getD 0
theorem aq2 a1 a8 {a9:Y aG} (hl:a9.length<=1000) (hn:1001<=n) (hv:∀v∈a9,okV v=true) (ht:a1.length<n) (ht2:a1.length<=9223372036854775807) (hr:∀t∈a1,t.rows.length<n/\t.rows.length<=9223372036854775807):∀a0 a2 a3 a4 a5 a6 a7,jE n a0 a1 a2 a3 a4 a5 a6 a7 a8 a9=some (H5 (aqn n a1) a9,a0,a1,a2,a3,a4,a5,a6,a7,a8,a9):=by have key:=λa0 a2 a3 a4 a5 a6 a7=>dQ (l:=a9) (step:=j5 n a9) (λ i s=>(s,i,a0,a1,a2,a3,a4,a5,a6,a7,a8,a9)) (λ v s=>i64.wrap (s+(jK n (bO.mk [] a1 [] [] [] [] [] 0) v).getD 0)) (λ s=>(s,a0,a1,a2,a3,a4,a5,a6,a7,a8,a9)) (λ _ _=>True) (λ i hi s _=>⟨by obtain⟨r,h1⟩:=aiW (n:=n) (bO.mk [] a1 [] [] [] [] [] 0) (hv _ (getElem_mem hi)) ht ht2 hr;have h2:jK n (bO.mk a0 a1 a2 a3 a4 a5 a6 a7) a9[i]=some r:=h1;simp only[j5,cK hi,aj,aV hi,bJ hi,ai,kS,h1,h2,aH,aZ i,Option.getD_some],trivial⟩) (λ s _=>by simp[j5]) n (by omega) 0 trivial;have key:=λa0 a2 a3 a4 a5 a6 a7=>(fm) ▸ key a0 a2 a3 a4 a5 a6 a7;unfold jE rV;simp only[key,ai,aH,aj];exact λ_ _ _ _ _ _ _=>rfl
theorem an6{α G:Type}(l:Y α)(f:α->G)(z:G){i:Nat}(hi:i<l.length):((l.take i).map f++List.replicate (l.length-i) z).set i (f l[i])=(l.take (i+1)).map f++List.replicate (l.length-(i+1)) z:=by
 have h1:((l.take i).map f).length=i:=by simp;omega
 rw[List.set_append_right _ _ (by omega),h1,Nat.sub_self,show l.length-i=(l.length-(i+1))+1 by omega,List.replicate_succ,List.set_cons_zero,iY hi,map_append,aU];rfl
theorem an7{α G:Type}(l:Y α)(f:α->G)(z:G){i:Nat}(hi:i<=l.length):((l.take i).map f++List.replicate (l.length-i) z).length=l.length:=by simp;omega
theorem an8{α G:Type}(l:Y α)(f:α->G)(z:G){i:Nat}(hi:i<l.length):((l.take (i+1)).map f++List.replicate (l.length-(i+1)) z)[i]? =some (f l[i]):=by rw[List.getElem?_append_left (by simp;omega)];simp[hi]
theorem an9{l:Y aG}(hl:l.length<=1000)(hn:1001<=n):iter (gK l) n (0,List.replicate l.length (ax.mk 0 0 0 0),[])=some (l.map iC,l.flatMap λv=>[v.ct,v.co]):=by
 refine KR (step:=gK l) (λ i=>(i,(l.take i).map iC++List.replicate (l.length-i) (ax.mk 0 0 0 0),(l.take i).flatMap λv=>[v.ct,v.co])) l.length _ ?_ (λ i hi=>?_) ?_ n (by omega);simp;have h1:=an7 l iC (ax.mk 0 0 0 0) (Nat.le_of_lt hi);have h2:=an6 l iC (ax.mk 0 0 0 0) hi;have h3:=an8 l iC (ax.mk 0 0 0 0) hi;have h4:((l.take i).flatMap λv=>[v.ct,v.co]).length=2*i:=by
  have:∀m:Y aG,(m.flatMap λv=>[v.ct,v.co]).length=2*m.length:=by
   intro m;induction m with
   |nil=>rfl
   |cons a m ih=>simp[ih];omega
  rw[this,length_take];omega
 generalize (l.take i).map iC++List.replicate (l.length-i) (ax.mk 0 0 0 0)=B at h1 h2;have e0:(((0:Nat):Int)+i).toNat=i:=by omega
 have et:(l.length:Int).toNat=l.length:=by omega
 have hb:ax.mk l[i].ct l[i].cH l[i].co l[i].cE=iC l[i]:=rfl;have hiB:i<B.length:=by omega
 rw[<- h2]at h3;have g3:bx (B.set i (iC l[i])) ((0:Nat)+i)=some (iC l[i]):=by rw[Fj];exact h3
 have hs:sub ([(iC l[i]).x0,(iC l[i]).x1]:Y Int) 0 2=[(iC l[i]).x0,(iC l[i]).x1]:=rfl;have hap:bF (2*i) (2*i) 2 2 8=true:=bV (by omega) (by simp[maxLen];omega);have hl2:([(iC l[i]).x0,(iC l[i]).x1]:Y Int).length=2:=rfl;simp only[gK,cK hi,aj,aV hi,bJ hi,ai,et,bJ hiB,e0,hb,g3,hs,hl2,h4,hap,dV,aH,aZ i];rw[<- h2,iY hi,List.flatMap_append];rfl;simp only[gK,Pk,au,aH,aj,List.take_length];simp
def cst(x w:Int)(s:Int×Int)(r:ax):Int×Int:=
 bif decide (r.x0<=x)&&(decide (x<r.x1)&&decide (r.y1>s.2))then(i64.wrap (s.1+i64.wrap (i64.wrap w*i64.wrap (r.y1-max s.2 r.y0))),r.y1)else s
def Su(R:Y ax)(X:Y Int)(n:Int)(k:Nat):Int:=(R.foldl (cst (X.getD k 0) (X.getD (k+1) 0-X.getD k 0)) (n,0)).1
def aiX(R:Y ax)(X:Y Int):Int:=(List.range (X.length-1)).foldl (Su R X) 0
def We(l:Y aG):Int:=aiX (iP yn (l.map iC)) (kG px (l.flatMap λv=>[v.ct,v.co]))
theorem aoa{l:Y aG}{R:Y ax}{X:Y Int} w2 (hR:R.length=l.length) (hX:X.length=w2.length) (hl:l.length<=1000) (hn:1001<=n) {k:Nat} (hk:k+1<w2.length) (hw:w2.length<=10000) s:iter (gL l w2 R X k) n (s,0,0)=some (Su R X s k):=by
 have et:((l.length:Int).toNat)=l.length:=by omega
 have ew:i64.wrap (k+1)=(k+1:Nat):=aL (by omega);have g1:X.getD k 0=X[k]'(by omega):=by simp[show k<X.length by omega]
 have g2:X.getD (k+1) 0=X[k+1]'(by omega):=by simp[show k+1<X.length by omega]
 unfold Su;rw[g1,g2];refine gH (l:=R) (step:=gL l w2 R X k) (λ i (s:Int×Int)=>(s.1,s.2,i)) (λ r s=>cst (X[k]'(by omega)) (X[k+1]'(by omega)-X[k]'(by omega)) s r) (λ s=>s.1) (λ i hi v=>?_) (λ v=>?_) n (by omega) (s,0);obtain⟨a,b⟩:=v;simp only[gL,et,cK (show i<l.length by omega),aj,aV (show i<l.length by omega),bJ (show i<R.length by omega),ai,aV (show k<w2.length by omega),bJ (show k<X.length by omega),ew,aV hk,bJ (show k+1<X.length by omega),aZ i,cst];cases decide ((R[i]'(by omega)).x0<=X[k]'(by omega))with
 |false=>rfl
 |true=>
  simp;cases decide (X[k]'(by omega)<(R[i]'(by omega)).x1)with
  |false=>rfl
  |true=>
   cases decide ((R[i]'(by omega)).y1>b)<;>rfl
 obtain⟨a,b⟩:=v;simp[gL,hR]
theorem aoc a1 a8 {a9:Y aG} (hl:a9.length<=1000) (hn:10000<=n):∀a0 a2 a3 a4 a5 a6 a7,iW n a0 a1 a2 a3 a4 a5 a6 a7 a8 a9=some (We a9,a0,a1,a2,a3,a4,a5,a6,a7,a8,a9):=by
 have et:((a9.length:Int).toNat)=a9.length:=by omega
 have mk:qg (a9.length:Nat) 32=true:=akm (by omega) (by simp[maxLen];omega);have d1:decide ((a9.length:Nat)<=(a9.length:Nat))=true:=by simp
 have d2:decide (0<=(a9.length:Nat))=true:=by simp
 have hz:aE 0 ([]:Y Int).length=true:=rfl;have hx:(a9.flatMap λv=>[v.ct,v.co]).length<=2000:=by
  have:∀m:Y aG,(m.flatMap λv=>[v.ct,v.co]).length=2*m.length:=by
   intro m;induction m with
   |nil=>rfl
   |cons a m ih=>simp[ih];omega
  rw[this];omega
 unfold iW;rw[et,an9 hl (by omega)];unfold We;generalize (a9.flatMap λv=>[v.ct,v.co])=W at hx;have srt:=K3 (n:=n) (l:=a9.map iC) (Z:=λy1=>iV y1.1 y1.2.1) (λ x y=>if x.y0<y.y0 then -1 else if y.y0<x.y0 then 1 else 0) (λ x y=>by show iV x y=_;unfold iV;rw[kX];rfl) (λ x y=>by unfold yn;rw[decide_eq_decide];constructor;intro h;split at h;assumption;split at h<;>omega;intro h;rw[aP h];decide) (by simp;omega) (by simp;omega);have hm:aE a9.length (a9.map iC).length=true:=by simp
 have hR:(iP yn (a9.map iC)).length=a9.length:=by rw[Fq ako];simp
 have hX:(kG px W).length=W.length:=(Fu px W).length_eq;simp[mk,srt,kY (show W.length<1099511627776 by omega) (show W.length<n by omega)];generalize iP yn (a9.map iC)=R at hR;generalize kG px W=X at hX;have key:iter (gM n a9 W R X) n (0,0)=some (aiX R X):=by
  have eN:max 0 (i64.wrap ((W.length:Nat)-1))=(W.length-1:Nat):=by
   cases h:W.length with
   |zero=>rfl
   |succ k=>rw[nU (by omega) (by omega)];omega
  have hrl:(List.range (X.length-1)).length=W.length-1:=by rw[List.length_range];omega
  unfold aiX;refine gH (l:=List.range (X.length-1)) (step:=gM n a9 W R X) (λ i s=>(s,i)) (λ k s=>Su R X s k) (λ s=>s) (λ i hi s=>?_) (λ s=>?_) n (by omega) 0;have hi':i<W.length-1:=by omega
  simp only[gM,eN,cK hi',aj,aoa (n:=n) (l:=a9) (R:=R) (X:=X) W hR hX hl (by omega) (k:=i) (by omega) (by omega) s,ai,aZ i,List.getElem_range];simp[gM,eN,hrl]
 rw[key];exact λ_ _ _ _ _ _ _=>rfl
def PP(b:ax)(k:Int):ax:=⟨b.x0-k,b.y0-k,b.x1+k,b.y1+k⟩
def F4(area:Y ax)(b:ax)(k:Int):Bool:=ft (PP b k)&&decide (area.foldl (λ s y=>YM (PP b k) s y) 0=PB (PP b k))
theorem alK(b:ax) k a2 a3 a4 a5 a6 a7 a8 a9 {lj:Y ax} ux (hb:ft b=true) (h0:0<=k) (h1:k<=1048576) (hl:lj.length<=1000) (hn:1001<=n):
 j4 n b k a2 a3 a4 a5 a6 a7 a8 a9 lj ux=some (F4 lj b k,a2,a3,a4,a5,a6,a7,a8,a9,lj,ux):=by
 rw[apO]at hb;unfold j4 Ck F4;rw[bP (x:=b.x0-k),bP (x:=b.y0-k),bP (x:=b.x1+k),bP (x:=b.y1+k),show ax.mk (b.x0-k) (b.y0-k) (b.x1+k) (b.y1+k)=PP b k from rfl,jM];generalize PP b k=g;simp;cases hg:ft g with
 |false=>simp
 |true=>
  have key:=gH (l:=lj) (step:=iR lj (g,true)) (λ i s=>(s,i)) (λ y s=>YM g s y) (λ s=>s) (λ i hi s=>by
   simp only[iR,cK hi,aj,aO hi,ai,Ac,aZ i,YM];cases h1:ft g with
   |false=>rfl
   |true=>
    cases h2:ft lj[i]with
    |false=>rfl
    |true=>
     cases h3:ft (GD g lj[i])with
     |false=>rfl
     |true=>simp[Ee h3]) (λ s=>by simp[iR]) n (by omega) 0
  rw[fm]at key;simp[key,Ee hg];congr 2
def RF(p:Int->Bool):Nat->Int->Int->Int
 | 0,lo,_=>lo
 |k+1,lo,hi=>bif decide (lo<hi)then(bif p ((lo+hi+1)/2)then RF p k ((lo+hi+1)/2) hi else RF p k lo ((lo+hi+1)/2-1))else lo
theorem ad4(p:Int->Bool):∀k lo hi,lo<=hi->lo<=RF p k lo hi/\RF p k lo hi<=hi
 | 0,lo,hi,h=>by simp[RF];omega
 |k+1,lo,hi,h=>by
  simp[RF];by_cases h1:lo<hi;have e:decide (lo<hi)=true:=by simpa using h1
  rw[e,aj];cases p ((lo+hi+1)/2)with
  |true=>have:=ad4 p k ((lo+hi+1)/2) hi (by omega);simp;omega
  |false=>have:=ad4 p k lo ((lo+hi+1)/2-1) (by omega);simp;omega
  have e:decide (lo<hi)=false:=by simpa using h1
  rw[e,au];omega
theorem aiY{v:aG}(hv:ft (iC v)=true) a2 a3 a4 a5 a6 a7 a8 a9 {lj:Y ax} ux (hl:lj.length<=1000) (hn:1001<=n):
 ∀(k:Nat) lo hi m,0<=lo->lo<=hi->hi<=1048576->hi-lo<2 ^ k->k<m->iter (eT n v) m (lo,hi,a2,a3,a4,a5,a6,a7,a8,a9,lj,ux)=some (RF (F4 lj (iC v)) k lo hi,a2,a3,a4,a5,a6,a7,a8,a9,lj,ux):=by
 intro k
 induction k with
 |zero=>
  intro lo hi m h0 h1 h2 h3 hm;obtain⟨q,rfl⟩:∃q,m=q+1:=⟨m-1,by omega⟩;have:lo=hi:=by simp at h3;omega
  subst this;refine fP ?_;have e:decide (lo<lo)=false:=by simp
  simp[eT,RF]
 |succ k ih=>
  intro lo hi m h0 h1 h2 h3 hm;obtain⟨q,rfl⟩:∃q,m=q+1:=⟨m-1,by omega⟩;have hp:(2:Int) ^ (k+1)=2*2 ^ k:=by rw[Int.pow_succ];omega
  rw[hp]at h3;by_cases hlt:lo<hi;have e:decide (lo<hi)=true:=by simpa using hlt
  have e2:((2:Nat) !=0)=true:=rfl;have em:i64.wrap (Int.tdiv (i64.wrap (i64.wrap (lo+hi)+1)) 2)=(lo+hi+1)/2:=by rw[bP (x:=lo+hi),bP (x:=lo+hi+1),Int.tdiv_eq_ediv_of_nonneg (by omega),bP (by omega) (by omega)]
  have hi2:=alK (n:=n) (iC v) ((lo+hi+1)/2) a2 a3 a4 a5 a6 a7 a8 a9 (lj:=lj) ux hv (by omega) (by omega) hl hn;unfold iC at hi2;cases hc:F4 lj (iC v) ((lo+hi+1)/2)with
  |true=>
   rw[jP (v':=((lo+hi+1)/2,hi,a2,a3,a4,a5,a6,a7,a8,a9,lj,ux)) (by unfold iC at hc;simp[eT,e,em,hi2,hc]),ih _ _ _ (by omega) (by omega) (by omega) (by omega) (by omega)];simp[RF,e,hc]
  |false=>
   rw[jP (v':=(lo,(lo+hi+1)/2-1,a2,a3,a4,a5,a6,a7,a8,a9,lj,ux)) (by unfold iC at hc;simp[eT,e,em,hi2,hc,bP (x:=(lo+hi+1)/2-1)]),ih _ _ _ (by omega) (by omega) (by omega) (by omega) (by omega)];simp[RF,e,hc]
  have e:decide (lo<hi)=false:=by simpa using hlt
  refine fP ?_;simp[eT,e,RF]
def Ef(area:Y ax)(l:Y aG):Int:=l.foldl (λ b v=>RF (F4 area (iC v)) 21 0 b) 1048576
theorem aiZ a0 a1 a2 a3 a4 a5 a6 a7 {a8:Y ax} {a9:Y aG} (hv:∀v∈a9,okV v=true) (hl:a9.length<=1000) (h8:a8.length<=1000) (hn:1001<=n):jD n a0 a1 a2 a3 a4 a5 a6 a7 a8 a9=some (Ef a8 a9,a0,a1,a2,a3,a4,a5,a6,a7,a8,a9):=by have key:=dQ (l:=a9) (step:=iH n a9) (λ i s=>(s,i,a0,a1,a2,a3,a4,a5,a6,a7,a8,a9)) (λ v s=>RF (F4 a8 (iC v)) 21 0 s) (λ s=>(s,a0,a1,a2,a3,a4,a5,a6,a7,a8,a9)) (λ _ s=>0<=s/\s<=1048576) (λ i hi s hs=>by have h1:=aiY (n:=n) (YS (hv _ (getElem_mem hi))) a0 a1 a2 a3 a4 a5 a6 a7 (lj:=a8) a9 h8 hn 21 0 s n (by omega) hs.1 hs.2 (by have:2 ^ 21=2097152:=rfl;omega) (by omega);have h2:=ad4 (F4 a8 (iC a9[i])) 21 0 s hs.1;refine⟨?_,by omega,by omega⟩;simp only[iH,cK hi,aj,aV hi,bJ hi,ai,aH,h1,aZ i]) (λ s _=>by simp[iH]) n (by omega) 1048576 (by omega);rw[fm]at key;unfold jD;simp[key];rfl
def gI(d:aQ):Y aG:=((lH d).take 40).filter okV
theorem ad5(d:aQ):∀v∈gI d,okV v=true:=λv hv=>(List.mem_filter.1 hv).2
theorem aaI(d:aQ):(gI d).length<=40:=Nat.le_trans (length_filter_le _ _) (by rw[length_take];omega)
def rQ(lot:fM):Y ax:=bif da lot.area then lot.area else []
theorem arU{l:Y aG} a0 a1 a2 a3 a4 a5 a6 a7 a8 (hl:l.length<=9223372036854775807) (hn:l.length<n):
 iter (sG l) n (0,a0,a1,a2,a3,a4,a5,a6,a7,a8,[])=some (a0,a1,a2,a3,a4,a5,a6,a7,a8,(l.take 40).filter okV):=by
 refine KR (step:=sG l) (λ i=>(i,a0,a1,a2,a3,a4,a5,a6,a7,a8,((l.take i).take 40).filter okV)) l.length _ (by simp) (λ i hi=>?_) ?_ n hn;have hlen:(((l.take i).take 40).filter okV).length<=40:=Nat.le_trans (length_filter_le _ _) (by rw[length_take];omega);have e40:decide ((i:Int)<40)=decide (i<40):=by rw[decide_eq_decide];omega
 have hs:sub ([l[i]]:Y aG) 0 1=[l[i]]:=rfl;have hN:((l.take (i+1)).take 40).filter okV=((l.take i).take 40).filter okV++(bif decide (i<40)&&okV l[i]then [l[i]]else []):=by
  by_cases h:i<40;have h1:(l.take i).take 40=l.take i:=take_of_length_le (by rw[length_take];omega);have h2:(l.take (i+1)).take 40=l.take (i+1):=take_of_length_le (by rw[length_take];omega);have h3:decide (i<40)=true:=by simpa using h
  rw[h1,h2,iY hi,List.filter_append,h3];cases h4:okV l[i]<;>simp[h4];have h3:decide (i<40)=false:=by simpa using h
  rw[List.take_take,List.take_take,h3,show min 40 (i+1)=40 by omega,show min 40 i=40 by omega];simp
 rw[hN];generalize ((l.take i).take 40).filter okV=L at hlen;have hap:bF L.length L.length 1 1 72=true:=bV (by omega) (by simp[maxLen];omega);simp only[sG,cK hi,aj,aV hi,bJ hi,ai,e40,vH,aZ i];cases decide (i<40)with
 |false=>simp
 |true=>
  simp;cases okV l[i]with
  |false=>simp
  |true=>simp[hs,hap]
 simp[sG]
def ai0(n:Nat)(p:bO):Prop:=p.tables.length<n/\p.tables.length<=9223372036854775807/\∀t∈p.tables,t.rows.length<n/\t.rows.length<=9223372036854775807
def Eg:ByteArray:=⟨#[115,101,116,98,97,99,107]⟩
def To(n:Nat)(ts:Y bQ)(A:Y ax)(l:Y aG):Y bg:=[⟨⟨#[97,114,101,97]⟩,bif da A then M0 A else 0⟩,⟨⟨#[99,111,118,101,114]⟩,We l⟩,⟨⟨#[102,108,111,111,114]⟩,H5 RD l⟩,⟨⟨#[102,108,111,111,114,115]⟩,Sx PQ l⟩,⟨⟨#[104,101,105,103,104,116]⟩,Sx (·.ez) l⟩,⟨⟨#[104,111,109,101,115]⟩,H5 (·.units) l⟩,⟨⟨#[114,117,110,111,102,102]⟩,We l⟩,⟨Eg,Ef A l⟩,⟨⟨#[116,114,97,102,102,105,99]⟩,H5 (aqn n ts) l⟩]
theorem aqo{p:bO}{lot:fM}{d:aQ}(hp:ai0 n p)(hl:lot.area.length<=900)(hd:UF d)(hn:2000000<=n):∀D φ R C V Φ H,kT n (bO.mk D p.tables φ R C V Φ H) lot d=some (To n p.tables (rQ lot) (gI d)):=by
 have hs1:rQ lot=(bif da lot.area then lot.area else []):=rfl;have hsl:(rQ lot).length<=900:=by unfold rQ;cases da lot.area<;>simp[hl]
 have hvl:=aaI d;have LN:=ad5 d;have hfl:=fp hd.2;have hd1:=hd.1;obtain⟨hp1,hp2,hp3⟩:=hp;have hz:aE 0 ([]:Y aG).length=true:=rfl;have LR:∀D φ R C V Φ H,((bif da lot.area then some (D,p.tables,φ,R,C,V,Φ,H,lot.area)else some (D,p.tables,φ,R,C,V,Φ,H,[])):J ((List gW)×(List bQ)×(List fO)×(List dw)×(List jI)×(List iG)×(List dM)×Int×(List ax)))=some (D,p.tables,φ,R,C,V,Φ,H,rQ lot):=by intro D φ R C V Φ H;rw[hs1];cases da lot.area<;>rfl
 have h2:=aoc (n:=n) p.tables (rQ lot) (a9:=gI d) (by omega) (by omega);have h3:=aqZ (n:=n) p.tables (rQ lot) (a9:=gI d) (by omega) (by omega);have h4:=an4 (n:=n) p.tables (rQ lot) (a9:=gI d) (by omega) (by omega);have h5:=an5 (n:=n) p.tables (rQ lot) (a9:=gI d) (by omega) (by omega);have h6:=aq0 (n:=n) p.tables (rQ lot) (a9:=gI d) (by omega) (by omega);have h8:=λD φ R C V Φ H=>aiZ (n:=n) D p.tables φ R C V Φ H (a8:=rQ lot) (a9:=gI d) LN (by omega) (by omega) (by omega);have h9:=aq2 (n:=n) p.tables (rQ lot) (a9:=gI d) (by omega) (by omega) LN hp1 hp2 hp3;intro D φ R C V Φ H;unfold kT;rw[jr (by omega) (by omega) (by omega),YT hd (by omega)];simp[LR];rw[arU (n:=n) D p.tables φ R C V Φ H (rQ lot) (by show(lH d).length<=_;unfold lH;omega) (by show(lH d).length<_;unfold lH;omega)];have hr:((lH d).take 40).filter okV=gI d:=rfl;have s1:∀e:bg,sub ([e]:Y bg) 0 1=[e]:=λ_=>rfl;have ap:∀k,k<=20->bF k k 1 1 24=true:=λk hk=>bV (by omega) (by simp[maxLen];omega);have lot:nP n D p.tables φ R C V Φ H (rQ lot) (gI d)=some (bif da (rQ lot)then M0 (rQ lot)else 0,D,p.tables,φ,R,C,V,Φ,H,rQ lot,gI d):=by unfold nP;rw[YD (by omega) (by omega)];simp
 simp[hr,lot,h2,h3,h4,ap 4 (by omega),h5,ap 5 (by omega),h6,ap 6 (by omega),h8,ap 7 (by omega),h9,ap 8 (by omega),Nat.reduceAdd,dP];rfl
theorem aq3{p:bO}{lot:fM}{d:aQ}(hp:ai0 n p)(hl:lot.area.length<=900)(hd:UF d)(hn:2000000<=n):∃e1 e2 e3 e4 e5 e6 e7 e8:Int,∀D φ R C V Φ H,kT n (bO.mk D p.tables φ R C V Φ H) lot d=some [⟨⟨#[97,114,101,97]⟩,e1⟩,⟨⟨#[99,111,118,101,114]⟩,e2⟩,⟨⟨#[102,108,111,111,114]⟩,e3⟩,⟨⟨#[102,108,111,111,114,115]⟩,e4⟩,⟨⟨#[104,101,105,103,104,116]⟩,e5⟩,⟨⟨#[104,111,109,101,115]⟩,e6⟩,⟨⟨#[114,117,110,111,102,102]⟩,e7⟩,⟨Eg,Ef (rQ lot) (gI d)⟩,⟨⟨#[116,114,97,102,102,105,99]⟩,e8⟩]:=⟨_,_,_,_,_,_,_,_,aqo (n:=n) hp hl hd hn⟩
theorem arV{p:bO}{lot:fM}{d:aQ}(hp:ai0 n p)(hl:lot.area.length<=900)(hd:UF d)(hn:2000000<=n):∃e1 e2 e3 e4 e5 e6 e7 e8:Int,∀R:Y dw,kT n (bO.mk p.defs p.tables p.zones R p.caps p.views p.xp p.hours) lot d=some [⟨⟨#[97,114,101,97]⟩,e1⟩,⟨⟨#[99,111,118,101,114]⟩,e2⟩,⟨⟨#[102,108,111,111,114]⟩,e3⟩,⟨⟨#[102,108,111,111,114,115]⟩,e4⟩,⟨⟨#[104,101,105,103,104,116]⟩,e5⟩,⟨⟨#[104,111,109,101,115]⟩,e6⟩,⟨⟨#[114,117,110,111,102,102]⟩,e7⟩,⟨Eg,Ef (rQ lot) (gI d)⟩,⟨⟨#[116,114,97,102,102,105,99]⟩,e8⟩]:=by have⟨e1,e2,e3,e4,e5,e6,e7,e8,h⟩:=aq3 (n:=n) hp hl hd hn;exact⟨e1,e2,e3,e4,e5,e6,e7,e8,λR=>h _ _ R _ _ _ _⟩
def Ok(p:lI):Bool:=decide (p.b9.length>12) || decide (p.gives.length>6)
def Of(d:aQ):Bool:=!(d.phases.any Ok)&&decide (d.phases.length<=9)
theorem YV{d:aQ}(h:d.phases.length<=1000000000000000000)(hn:d.phases.length<n)(hn2:10<=n):pR n [d]=some (Of d):=by
 have a0:bx [d] 0=some d:=rfl;have s2:=KQ (l:=d.phases) (step:=oW [d] 0) Ok () (.inr (.inr false)) (λ i hi=>by
  have d1:decide ((((d.phases[i]).b9.length:Nat):Int)>12)=decide ((d.phases[i]).b9.length>12):=by rw[decide_eq_decide];omega
  have d2:decide ((((d.phases[i]).gives.length:Nat):Int)>6)=decide ((d.phases[i]).gives.length>6):=by rw[decide_eq_decide];omega
  simp only[oW,a0,ai,cK hi,aj,aO hi,d1,d2,aZ i,Ok];cases decide ((d.phases[i]).b9.length>12)<;>cases decide ((d.phases[i]).gives.length>6)<;>rfl) (by simp[oW,a0]) n hn
 obtain⟨m,rfl⟩:∃m,n=m+2:=⟨n-2,by omega⟩;have d3:decide ((d.phases.length:Int)>9)=!decide (d.phases.length<=9):=by rw[<- decide_not,decide_eq_decide];omega
 have l1:decide ((0:Int)<(([d].length:Nat):Int))=true:=rfl;unfold pR Of;cases hb:d.phases.any Ok with
 |true=>
  rw[hb]at s2;rw[fP (o:=.inr false) (by simp only[kW,l1,aj,s2];rfl)];rfl
 |false=>
  rw[hb]at s2;cases h9:decide (d.phases.length<=9)with
  |false=>
   rw[fP (o:=.inr false) (by simp[kW,s2,a0,d3,h9])];rfl
  |true=>
   rw[jP (v':=1) (by simp[kW,s2,a0,d3,h9];rfl),fP (o:=.inl ()) (by simp only[kW];rfl)];rfl
theorem aks(ds:Y (ByteArray×ET)) s:∀(k:Nat) i,OJ ds s k=some i->0<=i/\i<k
 | 0,i,h=>by simp[OJ]at h
 |k+1,i,h=>by simp[OJ]at h;split at h;cases h;omega;have:=aks ds s k i h;omega
theorem apS{ds:Y (ByteArray×ET)}(h:tm ds<=4000000):zt (qh ds) ds.length:=by have hl:=VQ ds;refine⟨by simp[qh],by omega,λl hl=>?_⟩;simp only[qh,mem_map]at hl;obtain⟨d,hd,rfl⟩:=hl;have h1:=VU hd;have h2:=ET.qk d.2;have h3:=afR d.2.names;refine⟨Nat.le_trans (List.length_filterMap_le _ _) (by omega),λk hk=>?_⟩;simp[iF]at hk;obtain⟨s,_,hk⟩:=hk;exact aks ds s _ k hk
theorem agD{Δ:Y ByteArray}(hM:Δ.length<=1000)(hn:1001<=n)(w0:Y (ByteArray×Bool)):∃w,iter (pM Δ) n (0,w0)=some w:=by obtain⟨o,h,_⟩:=fE (step:=pM Δ) (λ i (v:Int×List (ByteArray×Bool))=>∃w,v=((i:Int),w)/\i<=Δ.length) (λ _=>True) Δ.length (λ k v ⟨_,_,h⟩=>h) (by rintro i v ⟨w,rfl,hi⟩;by_cases hlt:i<Δ.length;simp only[pM,show decide ((i:Int)<Δ.length)=true from by simp;omega,aj,aV hlt,bJ hlt,ai,aZ i];exact .inl ⟨_,rfl,_,rfl,hlt⟩;simp only[pM,show decide ((i:Int)<Δ.length)=false from by simp;omega,au];exact .inr ⟨_,rfl,trivial⟩) n 0 (0,w0) ⟨_,rfl,Nat.zero_le _⟩ (by omega);exact⟨o,h⟩
theorem agE{p:bO}(hp:p.defs.length<=4000000)(hn:4000001<=n)(w0:Y (ByteArray×Bool)):iter (lX p) n (0,w0)=some (.inl ())\/iter (lX p) n (0,w0)=some (.inr ([],[],5)):=by
 obtain⟨o,h,h2⟩:=fE (step:=lX p) (λ i (v:Int×List (ByteArray×Bool))=>∃w,v=((i:Int),w)/\i<=p.defs.length) (λ o=>o=.inl ()\/o=.inr ([],[],5)) p.defs.length (λ k v ⟨_,_,h⟩=>h) (by
  rintro i v ⟨w,rfl,hi⟩;by_cases hlt:i<p.defs.length;simp only[lX,show decide ((i:Int)<p.defs.length)=true from by simp;omega,aj,aO hlt,ai,aZ i];cases (gQ Gb.fg p.defs[i].name w).getD false with
  |true=>exact .inr ⟨_,rfl,.inr rfl⟩
  |false=>exact .inl ⟨_,rfl,_,rfl,hlt⟩
  simp only[lX,show decide ((i:Int)<p.defs.length)=false from by simp;omega,au];exact .inr ⟨_,rfl,.inl rfl⟩) n 0 (0,w0) ⟨_,rfl,Nat.zero_le _⟩ (by omega)
 rcases h2 with rfl|rfl;exact .inl h;exact .inr h
theorem agF:∃Δ,pJ=some Δ/\Δ.length=9:=⟨_,rfl,rfl⟩
def iz(l:Y gW):Prop:=tm (l.map toD)<=4000000
theorem iz.len{l:Y gW}(h:iz l):l.length<=4000000:=by have:=VQ (l.map toD);rw[length_map]at this;unfold iz at h;omega
theorem iz.body{l:Y gW}(h:iz l){d:gW}(hd:d∈l):(toE (dD.mk d.j8 d.mS d.lL d.ju d.fh)).wt<=4000000:=by have h1:=VU (mem_map.2 ⟨d,hd,rfl⟩:toD d∈l.map toD);unfold iz at h;simp[toD,ET.wt]at h1;simp[toE,ET.wt];omega
theorem UG{p:bO}(hp:iz p.defs)(hn:5000003<=n):∃r,oU n p=some r/\r.1.length<=p.defs.length/\(∀ k∈r.1,0<=k/\k<p.defs.length)/\r.2.1.length<=p.defs.length+1:=by
 obtain⟨Δ,hM,hM9⟩:=agF;obtain⟨w,hw⟩:=agD (n:=n) (Δ:=Δ) (by omega) (by omega) [];have hg:zt (qh (p.defs.map toD)) p.defs.length:=by have:=apS hp;rwa [length_map]at this
 have L3:lW p.defs=some (p.defs,qh (p.defs.map toD)):=by unfold lW;rw[Nat.ble_eq_true_of_le hp];rfl
 simp only[oU,hM,ai,hw];rcases agE (n:=n) (p:=p) hp.len (by omega) w with h|h;have⟨c,hc,hc2,hc3⟩:=af5 (n:=n) (a0:=p.defs) hg rfl hn;simp only[h,gG,L3,ai,hc];cases h0:(c.length==0)with
 |true=>
  have e:c=[]:=List.eq_nil_of_length_eq_zero (by simpa using h0);obtain⟨l,hl,hll,hlr⟩:=anS (n:=n) (a0:=qI.mk p.defs (qh (p.defs.map toD))) hg rfl (hc2 e) (by omega);simp only[aj,ai,au,hl,dP,aH];exact⟨_,rfl,by simp[hll],hlr,by simp⟩
 |false=>
  simp only[aj,ai,au,dP,aH];exact⟨_,rfl,by simp,by simp,hc3⟩
 simp only[h,tZ];exact⟨_,rfl,by simp,by simp,by simp⟩
theorem Eh(x:dD):dD.mk x.op x.n x.s x.key x.args=x:=by cases x;rfl
theorem PD:∀l:Y dD,Jt l=l.map toE
 |[]=>rfl
 |x::xs=>by simp[Jt,PD xs]
theorem akt:∀{l:Y ET}{t:ET},t∈l->t.wt<=ET.u9 l
 |x::l,t,h=>by simp[ET.u9];rcases aI.1 h with rfl|h;omega;have:=akt h;omega
theorem ai1{e x:dD}(h:x∈e.args):(toE x).wt<(toE e).wt:=by have h1:(toE x).wt<=ET.u9 (Jt e.args):=akt (by rw[PD];exact mem_map.2 ⟨x,h,rfl⟩);cases e;simp[toE,ET.wt]at *;omega
theorem Wi(e:dD):e.args.length<(toE e).wt:=by have h1:=ET.sX (Jt e.args);rw[PD,length_map]at h1;cases e;simp[toE,ET.wt,PD]at *;omega
def VR:Nat->dD->Prop
 | 0,_=>False
 |k+1,e=>zW e.op=some ((e.args.length:Int),true)/\∀x∈e.args,VR k x
theorem ai2 op:∃a b,zW op=some (a,b):=by simp only[zW];cases (op==0)<;>cases (op==1)<;>cases (op==2)<;>cases (op==3)<;>cases (op==9)<;>cases (op==15)<;>cases (op==16)<;>cases (decide (op>=0))<;>exact⟨_,_,rfl⟩
theorem acA(hn:4000002<=n):∀(m:Nat)(e:dD)(a:Int),m<=9223372036854775000->0<=a->a<=12->13<=a+m->(toE e).wt<=4000000->∃r,ul n m e a=some r/\1<=r/\r<=13+m/\(r<=12->VR m e)
 | 0,_,_,_,_,_,h,_=>absurd h (by omega)
 |m+1,e,a,hm,h0,h1,h2,h3=>by
  have⟨x,b,hx⟩:=ai2 e.op;have hla:=Wi e;show ∃r,Bt n (ul n m) e a=some r/\_;simp[Bt,hx];have bad:∃r,some (13:Int)=some r/\1<=r/\r<=13+(m+1:Nat)/\(r<=12->VR (m+1) e):=⟨13,rfl,by omega,by omega,λh=>absurd h (by omega)⟩;cases b with
  |false=>simpa[Bool.not_false,aj,ai]using bad
  |true=>
   simp;by_cases hxl:x=e.args.length;subst hxl;simp;by_cases ha:a>=12;simpa[ha,decide_true,aj]using bad;simp[ha]
   obtain⟨o,g1,g2,g3,g4⟩:=fE (step:=yZ n (ul n m) e a) (λ i (v:Int×Int)=>v.2=i/\i<=e.args.length/\0<=v.1/\v.1<=13+m/\(v.1<=11->∀y∈e.args.take i,VR m y))
    (λ o=>0<=o/\o<=13+m/\(o<=11->∀y∈e.args,VR m y)) e.args.length (λ k v h=>h.2.1) (by rintro i ⟨v2,v3⟩ ⟨hv,hi,i1,i2,i3⟩;simp at hv i1 i2 i3;subst hv;by_cases hlt:i<e.args.length;left;have hwx:=ai1 (getElem_mem hlt);obtain⟨r,r1,r2,r3,r4⟩:=acA hn m e.args[i] (a+1) (by omega) (by omega) (by omega) (by omega) (by omega);refine⟨(max v2 r,(i+1:Nat)),?_,rfl,hlt,by show 0<=max v2 r;omega,by show max v2 r<=_;omega,λh y hy=>?_⟩;simp only[yZ,show decide ((i:Int)<e.args.length)=true from by simp;omega,aj,aO hlt,ai,Eh,bP (show -9223372036854775808<=a+1 by omega) (show a+1<=9223372036854775807 by omega),r1,aZ i];have h':max v2 r<=11:=h;rw[List.take_add_one,dI hlt]at hy;rw[bI]at hy;rcases hy with hy|hy;exact i3 (by omega) y hy;simp at hy;subst hy;exact r4 (by omega);right;refine⟨v2,?_,i1,i2,λh y hy=>i3 h y (by rw[take_of_length_le (by omega)];exact hy)⟩;simp only[yZ,show decide ((i:Int)<e.args.length)=false from by simp;omega,au]) n 0 (0,0) ⟨rfl,Nat.zero_le _,by simp,by show 0<=_;omega,by simp⟩ (by omega)
   simp only[g1,ai];rw[bP (by omega) (by omega)];exact⟨o+1,rfl,by omega,by omega,λh=>⟨hx,g4 (by omega)⟩⟩;simpa[show (x !=(e.args.length:Nat))=true from by simpa using hxl,aj,ai]using bad
theorem Ue(hn:4000002<=n)(hn2:n<=9223372036854775000){e:dD}(h:(toE e).wt<=4000000):∃b,Js n e=some b/\(b=true->VR n e):=by obtain⟨r,h1,h2,h3,h4⟩:=acA hn n e 0 hn2 (by omega) (by omega) (by omega) h;refine⟨decide (r<=12),?_,λh=>h4 (by simpa using h)⟩;simp[Js,Eh,Rn,h1]
def arW(tables:Y bQ)(s key:ByteArray):Int:=match tables.find? λt=>ByteArray.toList t.name==ByteArray.toList s with
 |some t=>SP t key
 |none=>0
def Tl(ts:Y bQ):Prop:=ts.length<=4000000/\∀t∈ts,t.rows.length<=4000000
theorem alL(hn:4000002<=n){a0:Y gW}{ts:Y bQ}{a2:Y fO}{a3:Y dw}{a4:Y jI}{a5:Y iG}{a6:Y dM}{a7:Int}{zs:Y ByteArray}(ht:Tl ts)(e:dD)(kn:Y (ByteArray×Int)):jG n a0 ts a2 a3 a4 a5 a6 a7 zs e kn=some (arW ts e.s e.key,kn):=by
 have h1:=ht.1;simp[jG];rw[vZ (λ t=>ByteArray.toList t.name==ByteArray.toList e.s) (λ x _=>rfl) (by omega) (by omega)];simp[arW];rcases FU (λ t:bQ=>ByteArray.toList t.name==ByteArray.toList e.s) ts with ⟨i,hi,h1,h2⟩|⟨h1,h2⟩;rw[h1,h2];have d:decide ((i:Int)<0)=false:=by simp
 have hr:=ht.2 _ (getElem_mem hi);simp[d,aO hi];rw[wh (λ x=>ByteArray.toList x.name==ByteArray.toList e.key) (λ x _=>rfl) (by omega) (by omega)];simp[SP];rcases FU (λ x:bg=>ByteArray.toList x.name==ByteArray.toList e.key) ts[i].rows with ⟨j,hj,g1,g2⟩|⟨g1,g2⟩;rw[g1,g2];have d:decide ((j:Nat)>=0)=true:=by simp
 simp[aO hj];rw[g1,g2];rfl;rw[h1,h2];rfl
theorem fu{α:Type}{c:Bool}{x y:J α}(hx:∃r,x=some r)(hy:∃r,y=some r):∃r,(bif c then x else y)=some r:=by cases c<;>assumption
theorem aaJ(a b:Int):∃r,yc a b=some r:=by
 simp[yc];cases h:(b==0)with
 |true=>exact⟨_,rfl⟩
 |false=>
  have:(b !=0)=true:=by simp[bne,h]
  simp[this];cases (Int.tmod a b !=0)<;>cases (decide (Int.tmod a b<0)==decide (b<0))<;>exact⟨_,rfl⟩
theorem YW b:∃r,zX b=some r:=fu ⟨_,rfl⟩ ⟨_,rfl⟩
theorem uq{α G:Type}{x:J α}{f:α->J G}(hx:∃r,x=some r)(hf:∀r,∃s,f r=some s):∃s,x.bind f=some s:=by obtain⟨r,rfl⟩:=hx;exact hf r
theorem agG(op a b:Int):∃r,KJ op a b=some r:=by
 have q:=aaJ a b;have t:=λc=>YW c;unfold KJ
 repeat' first
  |exact⟨_,rfl⟩
  |exact q
  |exact t _
  |apply fu
  |(refine uq ?_ λr=>?_)
theorem JO(h:0<n):cV 0 n=true:=by simp[cV];omega
theorem agH(h:1<n):cV 1 n=true:=by simp[cV];omega
theorem aof(h:2<n):cV 2 n=true:=by simp[cV];omega
theorem PE{α:Type}{l:Y α}(h:0<l.length):bx l ((0:Nat)+0)=some l[0]:=bJ (i:=0) h
theorem akv{α:Type}{l:Y α}(h:1<l.length):bx l ((0:Nat)+1)=some l[1]:=bJ (i:=1) h
theorem apT{α:Type}{l:Y α}(h:2<l.length):bx l ((0:Nat)+2)=some l[2]:=bJ (i:=2) h
theorem aaK{l:Y ByteArray}{s:ByteArray}(hl:l.length<=4000000)(hn:4000002<=n):∃r,eF n l s=some r:=by
 obtain⟨o,h,_⟩:=fE (step:=oM l s) (λ i v=>v=i/\i<=l.length) (λ _=>True) l.length (λ k v h=>h.2) (by
  rintro i v ⟨rfl,hi⟩;by_cases hlt:i<l.length;simp only[oM,show decide ((i:Int)<l.length)=true from by simp;omega,aj,aO hlt,ai,aZ i];cases (ByteArray.toList s==ByteArray.toList l[i])with
  |true=>exact .inr ⟨_,rfl,trivial⟩
  |false=>exact .inl ⟨_,rfl,rfl,hlt⟩
  simp only[oM,show decide ((i:Int)<l.length)=false from by simp;omega,au];exact .inr ⟨_,rfl,trivial⟩) n 0 0 ⟨rfl,Nat.zero_le _⟩ (by omega)
 simp only[eF,sW,h];cases o with
 |inl u=>cases u;simp only[gG,ai];exact⟨_,rfl⟩
 |inr r=>simp only[tZ,ai];exact⟨_,rfl⟩
theorem alM{op a:Int}(h0:(op==0)=false)(h1:(op==1)=false)(h2:(op==2)=false)(h3:(op==3)=false)(h9:(op==9)=false)(R0:(op==15)=false)(h16:(op==16)=false)(h:zW op=some (a,true)):a=2:=by
 simp[zW,h0,h1,h2,h3,h9,R0,h16]at h;cases hd:decide (op>=0)with
 |true=>rw[hd]at h;simp at h;exact h.1.symm
 |false=>rw[hd]at h;simp at h
section
variable {n:Nat} {a0:List gW} {ts:List bQ} {a2:List fO} {a3:List dw} {a4:List jI} {a5:List iG} {a6:List dM} {a7:Int} {zs:List ByteArray}
theorem YX(hn:4000002<=n)(ht:Tl ts)(hz:zs.length<=4000000):∀(m:Nat)(e:dD)(kn:Y (ByteArray×Int)),VR m e->(toE e).wt<=4000000->∃v,bS n m a0 ts a2 a3 a4 a5 a6 a7 zs e kn=some (v,kn)
 | 0,_,_,h,_=>h.elim
 |m+1,e,kn,⟨ha,hr⟩,hw=>by
  have hla:=Wi e;have hmx:maxLen=9223372036854775807:=rfl;show ∃v,fH n (bS n m) a0 ts a2 a3 a4 a5 a6 a7 zs e kn=some (v,kn)
  obtain⟨o,h1,l,rfl,hl⟩:=fE (step:=fB n (bS n m) a0 ts a2 a3 a4 a5 a6 a7 zs e) (λ i (v:Int×List (ByteArray×Int)×List Int)=>∃l,v=((i:Int),kn,l)/\i<=e.args.length/\l.length=i)
   (λ o=>∃l,o=(kn,l)/\l.length=e.args.length) e.args.length (λ k v ⟨_,_,h,_⟩=>h) (by
   rintro i v ⟨l,rfl,hi,hl⟩;by_cases hlt:i<e.args.length;left;have hwx:=ai1 (getElem_mem hlt);obtain⟨x,hx⟩:=YX hn ht hz m e.args[i] kn (hr _ (getElem_mem hlt)) (by omega);have key:∃b,((bif (e.op==(16:Int))then(bif (decide ((i:Int)>(0:Int)))then(ck (cV 0 l.length) ((bx l ((0:Nat)+0:Int)).bind λx2=>some (!((x2 !=(0:Int))==((i:Int)==1)))))else some false)else some false):J (Bool))=some b:=(by refine fu ?_ ⟨_,rfl⟩;by_cases h0:(i:Int)>0;simp only[h0,decide_true,aj,JO (show 0<l.length by omega),PE (show 0<l.length by omega),ai];exact⟨_,rfl⟩;simp only[h0,decide_false,au];exact⟨_,rfl⟩);obtain⟨b,hb⟩:=key;have hap:∀z:Int,bF l.length l.length (sub [z] 0 1).length 1 8=true:=λz=>(by simp[bF,sub];omega);simp only[fB,show decide ((i:Int)<e.args.length)=true from by simp;omega,aj,aO hlt,ai,hb,Eh,hx,hap,dV,aH,aZ i];cases b with
   |true|false=>exact⟨_,rfl,_,rfl,hlt,by simp[sub,hl]⟩
   right;refine⟨(kn,l),?_,l,rfl,by omega⟩;simp only[fB,show decide ((i:Int)<e.args.length)=false from by simp;omega,au,aH,aj]) n 0 (0,kn,[]) ⟨[],rfl,Nat.zero_le _,rfl⟩ (by omega)
  simp only[fH,length_nil,aH,aj,h1,ai,Eh,alL hn ht];cases h0:(e.op==0)with
  |true=>exact⟨_,rfl⟩
  |false=>
  cases h1:(e.op==1)with
  |true=>exact⟨_,rfl⟩
  |false=>
  cases h2:(e.op==2)with
  |true=>exact⟨_,rfl⟩
  |false=>
  cases h3:(e.op==3)with
  |true=>
   have⟨r,hr⟩:=aaK (n:=n) (l:=zs) (s:=e.s) hz hn;have⟨r2,hr2⟩:=YW r;simp only[au,aj,hr,hr2,ai];exact⟨_,rfl⟩
  |false=>
  cases h9:(e.op==9)with
  |true=>
   have e9:e.op=9:=(by simpa using h9);rw[e9]at ha;have:l.length=1:=(by have h:some (1,true)=some ((e.args.length:Int),true):=ha;simp at h;omega);simp only[au,aj,JO (show 0<l.length by omega),PE (show 0<l.length by omega),ai];exact⟨_,rfl⟩
  |false=>
  cases R0:(e.op==15)with
  |true=>
   have e15:e.op=15:=(by simpa using R0);rw[e15]at ha;have:l.length=1:=(by have h:some (1,true)=some ((e.args.length:Int),true):=ha;simp at h;omega);obtain⟨r2,hr2⟩:=YW (l[0]'(by omega)==0);simp only[au,aj,JO (show 0<l.length by omega),PE (show 0<l.length by omega),ai,hr2];exact⟨_,rfl⟩
  |false=>
  cases h16:(e.op==16)with
  |true=>
   have e16:e.op=16:=(by simpa using h16);rw[e16]at ha;have:l.length=3:=(by have h:some (3,true)=some ((e.args.length:Int),true):=ha;simp at h;omega);simp only[au,aj,JO (show 0<l.length by omega),PE (show 0<l.length by omega),agH (show 1<l.length by omega),akv (show 1<l.length by omega),aof (show 2<l.length by omega),apT (show 2<l.length by omega),ai];cases (l[0]'(by omega) !=0)<;>exact⟨_,rfl⟩
  |false=>
   have:l.length=2:=(by have:=alM h0 h1 h2 h3 h9 R0 h16 ha;omega);obtain⟨r,hr⟩:=agG e.op (l[0]'(by omega)) (l[1]'(by omega));simp only[au,aj,JO (show 0<l.length by omega),PE (show 0<l.length by omega),agH (show 1<l.length by omega),akv (show 1<l.length by omega),ai,hr];exact⟨_,rfl⟩
end
theorem ai3{ms:Y bg}(h:ms.length<=4000000)(hn:4000002<=n):∃o,iter (jf n ms) n (0,[],[])=some o:=by obtain⟨o,h,_⟩:=fE (step:=jf n ms) (λ i (v:Int×List (ByteArray×Int)×List (ByteArray×Bool))=>∃a b,v=((i:Int),a,b)/\i<=ms.length) (λ _=>True) ms.length (λ k v ⟨_,_,_,h⟩=>h) (by rintro i v ⟨a,b,rfl,hi⟩;by_cases hlt:i<ms.length;left;simp only[jf,show decide ((i:Int)<ms.length)=true from by simp;omega,aj,aO hlt,ai,aZ i];cases (!((gQ Gb.fg ms[i].name b).getD false))<;>exact⟨_,rfl,_,_,rfl,hlt⟩;right;simp only[jf,show decide ((i:Int)<ms.length)=false from by simp;omega,au];exact⟨_,rfl,trivial⟩) n 0 _ ⟨[],[],rfl,Nat.zero_le _⟩ (by omega);exact⟨o,h⟩
structure ai4(p:bO):Prop where
 defs:iz p.defs
 tabs:Tl p.tables
theorem ad6(a b:ByteArray):Gb.fg a b=true↔a=b:=by unfold Gb.fg;rw[beq_iff_eq,ByteArray.toList_eq,ByteArray.toList_eq];exact⟨λ h=>ByteArray.ext (Array.toList_inj.1 h),λh=>by rw[h]⟩
theorem agI{V:Type}(k k':ByteArray)(v:V)(h:k≠k'):∀l:Y (ByteArray×V),gQ Gb.fg k (GL Gb.fg k' v l)=gQ Gb.fg k l
 |[]=>by
  have:Gb.fg k k'=false:=by rw[Bool.eq_false_iff];exact λe=>h ((ad6 _ _).1 e)
  simp[GL,gQ,this]
 |p::l=>by
  have e:Gb.fg k k'=false:=by rw[Bool.eq_false_iff];exact λe=>h ((ad6 _ _).1 e)
  have ih:=agI k k' v h l;simp[GL];cases c:Gb.fg k' p.1 with
  |true=>
   have:=(ad6 _ _).1 c;subst this;simp[gQ,e]
  |false=>simp[gQ,ih]
theorem M8{p:bO}{ms:Y bg}{zs:Y ByteArray}(hp:ai4 p)(hm:ms.length<=4000000)(hz:zs.length<=4000000)(hn:5000003<=n)(hn2:n<=9223372036854775000):∃kn out,nK n p ms zs=some (p.defs,p.tables,p.zones,p.rules,p.caps,p.views,p.xp,p.hours,zs,kn,out)/\out.length=p.defs.length/\∀w,iter (jf n ms) n (0,[],[])=some w->∀s,(gQ Gb.fg s w.2).getD false=true->gQ Gb.fg s kn=gQ Gb.fg s w.1:=by
 obtain⟨⟨w1,w2⟩,hs1⟩:=ai3 (n:=n) hm (by omega);have⟨r,hr,hrl,hrr,_⟩:=UG (n:=n) hp.defs hn;have hl:=hp.defs.len;have hmx:maxLen=9223372036854775807:=rfl;have hmk:qg p.defs.length 8=true:=by simp[qg];omega
 simp only[nK,hs1,ai,Int.le_refl,decide_true,Bool.true_and,show decide (0<=p.defs.length)=true from by simp,hmk,aj,hr];cases hb:(r.2.2 !=0)with
 |true=>
  simp only[aj,Int.toNat_natCast,List.length_replicate,aH];exact⟨_,_,rfl,by simp,λw hw s _=>by cases hw;rfl⟩
 |false=>
  obtain⟨o,h1,kn,out,rfl,h2,h3⟩:=fE (step:=gZ n p zs w2 r) (λ i (v:Int×List (ByteArray×Int)×List Int)=>∃kn out,v=((i:Int),kn,out)/\i<=r.1.length/\out.length=p.defs.length/\∀s,(gQ Gb.fg s w2).getD false=true->gQ Gb.fg s kn=gQ Gb.fg s w1)
   (λ o=>∃kn out,o=(kn,out)/\out.length=p.defs.length/\∀s,(gQ Gb.fg s w2).getD false=true->gQ Gb.fg s kn=gQ Gb.fg s w1) r.1.length (λ k v ⟨_,_,_,h,_⟩=>h) (by
   rintro i v ⟨kn,out,rfl,hi,hol,hK⟩;by_cases hlt:i<r.1.length;left;have hk:=hrr r.1[i] (getElem_mem hlt);obtain⟨k,hk2⟩:=Int.eq_ofNat_of_zero_le hk.1;have hkd:k<p.defs.length:=(by omega);have hko:k<out.length:=(by omega);have hbw:=hp.defs.body (getElem_mem hkd);obtain⟨b,hb1,hb2⟩:=Ue (n:=n) (by omega) hn2 hbw;simp only[gZ,show decide ((i:Int)<r.1.length)=true from by simp;omega,aj,aV hlt,bJ hlt,ai,hk2,aO hkd,hb1,Int.toNat_natCast,aV hkd,bJ hko,aZ i,show(((0:Nat):Int)+k).toNat=k by omega];have step2:∀(Rg:Y (ByteArray×Int)) out',out'.length=p.defs.length->(∀ s,(gQ Gb.fg s w2).getD false=true->gQ Gb.fg s Rg=gQ Gb.fg s w1)->∃Lw,((bif (!((gQ Gb.fg p.defs[k].name w2).getD false))then(bx out' ((0:Nat)+k:Int)).bind λx5=>some (GL Gb.fg p.defs[k].name x5 Rg,out')else some (Rg,out')):J ((List (ByteArray×Int))×(List Int)))=some (Lw,out')/\∀s,(gQ Gb.fg s w2).getD false=true->gQ Gb.fg s Lw=gQ Gb.fg s w1:=by
    intro Rg out' ho hK;cases hc:(gQ Gb.fg p.defs[k].name w2).getD false with
    |false=>
     simp only[Bool.not_false,aj,bJ (show k<out'.length by omega),ai];exact⟨_,rfl,λs hs=>by rw[agI _ _ _ (λ e=>by rw[e,hc]at hs;cases hs)];exact hK s hs⟩
    |true=>exact⟨_,rfl,hK⟩
   cases b with
   |true=>
    obtain⟨v,hv⟩:=YX (n:=n) (a0:=p.defs) (a2:=p.zones) (a3:=p.rules) (a4:=p.caps) (a5:=p.views) (a6:=p.xp) (a7:=p.hours) (by omega) hp.tabs hz n _ kn (hb2 rfl) hbw;simp only[gD,hv,aj,ai];obtain⟨kn2,h2,h3⟩:=step2 kn (out.set k v) (by simp[hol]) hK;rw[h2];exact⟨_,rfl,_,_,rfl,hlt,by simp[hol],h3⟩
   |false=>
    simp only[au,ai];have⟨kn2,h2,h3⟩:=step2 kn out hol hK;rw[h2];exact⟨_,rfl,_,_,rfl,hlt,hol,h3⟩
   right;simp only[gZ,show decide ((i:Int)<r.1.length)=false from by simp;omega,au];exact⟨_,rfl,_,_,rfl,hol,hK⟩) n 0 (0,w1,List.replicate p.defs.length 0) ⟨_,_,rfl,Nat.zero_le _,by simp,λ_ _=>rfl⟩ (by omega)
  simp only[au,Int.toNat_natCast,h1,ai,h2,aH,aj];exact⟨_,_,rfl,h2,λw hw=>by cases hw;exact h3⟩
end Go.Proofs
