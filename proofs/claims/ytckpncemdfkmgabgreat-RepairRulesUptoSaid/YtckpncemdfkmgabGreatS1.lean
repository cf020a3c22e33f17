import Derived.Test.YtckpncemdfkmgabGreatTD1
open Go.IntKind (i64)
open List (length_take mem_map all_eq_true getElem_mem length_map mem_iff_getElem length_drop length_nil foldl_cons take_of_length_le mem_filter any_eq_true pairwise_cons length_filter_le map_append pairwise_append getElem_drop)
namespace Go.Proofs
open Go.Gb Go.RowKit
variable {n:Nat}
theorem jf(a b:Int):cmp_Compare_int a b=some (if a<b then -1 else if b<a then 1 else 0):=by by_cases h1:a<b;simp[cmp_Compare_int,cmp_isNaN_int,h1];by_cases h2:b<a;simp[cmp_Compare_int,cmp_isNaN_int,h1,h2];simp[cmp_Compare_int,cmp_isNaN_int,h1,h2]
theorem pO{l:List Int}(hl:l.length<1099511627776)(_:l.length<n):pF n l=some (kN ov l):=by show NL l=_;unfold NL;rw[Nat.ble_eq_true_of_le (show l.length<=1099511627775 by omega),aj]
theorem ug{l:List Int}(hl:l.length<1099511627776)(hn:l.length<n):pG n l=some ((),iX l):=by rw[<- ade];exact XY (eq:=λx y=>x==y) (ne:=λx y=>x !=y) (λ x y=>by simp[bne]) hl hn
theorem RG{l:List Int}{a:Int}(hl:l.length<1099511627776)(hn:l.length<n):Ej n l a=some (Az (λ x=>a==x) l):=Q6 hl hn
theorem KO{l:List Int}{a:Int}(hl:l.length<1099511627776)(hn:l.length<n):rq n l a=some (l.any λx=>a==x):=by unfold rq;rw[RG hl hn,ai,wU]
theorem Fu{l:List cO}{φ:(cO×Unit)->Option Bool}(p:cO->Bool)(h:∀x∈l,φ (x,())=some (p x))(hl:l.length<1099511627776)(hn:l.length<n):rJ n l φ=some (Az p l):=iT p h hl hn
theorem Fv{l:List bD}{φ:(bD×Unit)->Option Bool}(p:bD->Bool)(h:∀x∈l,φ (x,())=some (p x))(hl:l.length<1099511627776)(hn:l.length<n):kQ n l φ=some (Az p l):=iT p h hl hn
theorem Pm{l:List au}(h:l.length<1099511627776):AA l=some l:=zS (b:=32) (by omega) (by simp[maxLen];omega)
theorem RH{l:List Int}(h:l.length<1099511627776):tF l=some l:=zS (b:=8) (by omega) (by simp[maxLen];omega)
theorem M4{l:List (List au)}(hf:l.flatten.length<1099511627776)(hl:l.length<1099511627776)(hn:l.length<n):yE n l=some l.flatten:=Ml (au.mk 0 0 0 0) (b:=32) hf (by omega) hl hn
theorem Cr{a b:List au}(hl:a.length<1099511627776)(hn:a.length<n):oF n a b=some (decide (a=b)):=by
 have e:oF n a b=Tp n (λ x1 x2:au=>!((x1.x0==x2.x0)&&((x1.y0==x2.y0)&&((x1.x1==x2.x1)&&((x1.y1==x2.y1)&&true))))) a b:=by kernel_rfl
 rw[e];refine Q7 (λ x y=>?_) hl hn;obtain⟨a,b,c,d⟩:=x;obtain⟨e,f,g,h⟩:=y;simp;rw[kK];simp
theorem Cs{a b:List aK}(hl:a.length<1099511627776)(hn:a.length<n):vw n a b=some (decide (a=b)):=by
 have e:vw n a b=Tp n (λ x1 x2:aK=>!((x1.from_==x2.from_)&&((x1.to==x2.to)&&true))) a b:=by kernel_rfl
 rw[e];refine Q7 (λ x y=>?_) hl hn;obtain⟨a,b⟩:=x;obtain⟨c,d⟩:=y;simp;rw[kK];simp
abbrev tB(a b:aK):Bool:=decide (a.from_<b.from_)
theorem M5:Go.Sort.SWO tB where
 irrefl x:=by simp[tB]
 trans x y z h1 h2:=by simp only[tB,bE]at *;omega
 ntrans x y z h1 h2:=by simp only[tB,dN]at *;omega
theorem JB{l:List aK}{φ:(aK×aK×Unit)->Option Int}(f:aK->aK->Int)(hφ:∀x y,φ (x,y,())=some (f x y))(hf:∀x y,decide (f x y<0)=tB x y)(hl:l.length<1099511627776)(_:l.length<n):uU n l φ=some (rW tB l):=
 adn f hφ hf M5 hl
theorem ahB{V O:Type}{step:V->Option (V⊕O)}(Inv:V->Prop)(Post:O->Prop)(μ:V->Nat)
 (h:∀v,Inv v->(∃ v',step v=some (.inl v')/\Inv v'/\μ v'< μ v)\/∃o,step v=some (.inr o)/\Post o):∀(n:Nat)(v:V),Inv v->μ v<n->∃o,iter step n v=some o/\Post o
 | 0,_,_,hn=>absurd hn (Nat.not_lt_zero _)
 |n+1,v,hi,hn=>by rcases h v hi with ⟨v',h1,h2,h3⟩|⟨o,h1,h2⟩;rw[dL h1];exact ahB Inv Post μ h n v' h2 (by omega);exact⟨o,cK h1,h2⟩
theorem HY:∀(N:Nat)(l:List Nat),l.Nodup->(∀ y∈l,y<N)->l.length<=N
 | 0,[],_,_=>ay _
 | 0,x::l,_,h=>absurd (h x (by simp)) (by omega)
 |N+1,l,hn,h=>by
  have h1:=HY N (l.filter λy=>decide (y≠N)) (hn.filter _) (λ y hy=>by rw[mem_filter]at hy;have:=h y hy.1;have:=hy.2;simp at this;omega);have h2:=List.length_eq_countP_add_countP (λ y=>decide (y≠N)) (l:=l);rw[List.countP_eq_length_filter]at h2;have h3:List.countP (λ a=>decide ¬(decide (a≠N)=true)) l=l.count N:=by rw[List.count];refine List.countP_congr λy _=>?_;simp
  have h4:=List.nodup_iff_count.1 hn N;omega
def X7(us:List (List Int))(N:Nat):Prop:=us.length=N/\N<=4000000/\∀l∈us,l.length<=4000000/\∀k∈l,0<=k/\k<N
structure BI(us:List (List Int))(N to h:Nat)(d:List Int)(F:List Nat):Prop where
 dl:d.length=N
 nd:F.Nodup
 rg:∀x∈F,x<N
 mem:∀i:Nat,i<N->(0<=d.getD i 0↔i∈F)
 ub:∀j x:Nat,F[j]? =some x->d.getD x 0<=(j:Int)
 pre:∀j x:Nat,F[j]? =some x->0<j->∃p y:Nat,p<j/\F[p]? =some y/\(y:Int)∈us.getD x []/\d.getD y 0=d.getD x 0-1
 hd:F[0]? =some to/\d.getD to 0=0
 hh:h<=F.length
 cl:∀p y:Nat,p<h->F[p]? =some y->∀i:Nat,i<N->(y:Int)∈us.getD i []->0<=d.getD i 0
theorem BI.len{us:List (List Int)}{N to h:Nat}{d:List Int}{F:List Nat}(b:BI us N to h d F):F.length<=N:=by exact HY N F b.nd b.rg
theorem BI.push{us:List (List Int)}{N to h:Nat}{d:List Int}{F:List Nat}(b:BI us N to h d F){i x p:Nat}(hi:i<N)(hd:d.getD i 0<0)(hp:F[p]? =some x)(hx:(x:Int)∈us.getD i []):
 BI us N to h (d.set i (d.getD x 0+1)) (F++[i]):=by
 have hiF:i∉F:=λhm=>by have:=(b.mem i hi).2 hm;omega
 have Wg:x∈F:=bZ hp;have hne:∀y,y∈F->i≠y:=λy hy e=>hiF (e ▸ hy);have hset:∀y,y∈F->(d.set i (d.getD x 0+1)).getD y 0=d.getD y 0:=λy hy=>by simp[List.getElem?_set_ne (hne y hy)]
 have vu:(d.set i (d.getD x 0+1)).getD i 0=d.getD x 0+1:=by
  have:i<d.length:=by rw[b.dl];exact hi
  simp[this]
 have hx0:0<=d.getD x 0:=(b.mem x (b.rg x Wg)).2 Wg;have hlt:p<F.length:=(dh.1 hp).1;refine⟨by simpa using b.dl,?_,?_,?_,?_,?_,?_,?_,?_⟩;rw[List.nodup_append];exact⟨b.nd,by simp,λa ha c hc=>by simp at hc;subst hc;exact λe=>hiF (e ▸ ha)⟩;intro y hy;rw[bK]at hy;rcases hy with hy|hy;exact b.rg y hy;simp at hy;omega;intro j hj;by_cases e:i=j;subst e;rw[vu];exact⟨λ _=>by simp,λ_=>by omega⟩;simp only[List.getD,List.getElem?_set_ne e];rw[bK];have:=b.mem j hj;simp at this;rw[this];simp[Ne.symm e];intro j y hy;rw[List.getElem?_append]at hy;split at hy;rw[hset y (bZ hy)];exact b.ub j y hy;rename_i hj;have:y=i/\j=F.length:=by
  cases h:j-F.length with
  |zero=>rw[h]at hy;simp at hy;exact⟨hy.symm,by omega⟩
  |succ z=>rw[h]at hy;simp at hy
 obtain⟨rfl,rfl⟩:=this;rw[vu];have:=b.ub p x hp;omega;intro j y hy hj;rw[List.getElem?_append]at hy;split at hy;have⟨p',y',h1,h2,h3,h4⟩:=b.pre j y hy hj;exact⟨p',y',h1,by rw[List.getElem?_append_left (by have:=(dh.1 h2).1;exact this)];exact h2,h3,by rw[hset y' (bZ h2),hset y (bZ hy)];exact h4⟩;rename_i hj';have:y=i/\j=F.length:=by
  cases h:j-F.length with
  |zero=>rw[h]at hy;simp at hy;exact⟨hy.symm,by omega⟩
  |succ z=>rw[h]at hy;simp at hy
 obtain⟨rfl,rfl⟩:=this;exact⟨p,x,hlt,by rw[List.getElem?_append_left hlt];exact hp,hx,by rw[vu,hset x Wg];omega⟩;have h0:=(dh.1 b.hd.1).1;exact⟨by rw[List.getElem?_append_left h0];exact b.hd.1,by rw[hset _ (bZ b.hd.1)];exact b.hd.2⟩;have:=b.hh;simp;omega;intro p' y hp' hy j hj hm;rw[List.getElem?_append_left (by have:=b.hh;omega)]at hy;have:=b.cl p' y hp' hy j hj hm;rw[hset j ((b.mem j hj).1 this)];exact this
theorem pn{α:Type}(o:Nat)(l:List α):UJ o l=l.drop o:=by cases o<;>simp[UJ]
def BS(us:List (List Int))(N to h x:Nat):(Int×Int×List Int×List Int)->Prop
 |(v4,v5,d,v7)=>∃(o i:Nat)(F:List Nat),v4=o/\v5=i/\o<=v7.length/\v7.drop o=(F.drop (h+1)).map (λ k:Nat=>(k:Int))/\i<=N/\BI us N to h d F/\F[h]? =some x/\∀i',i'<i->(x:Int)∈us.getD i' []->0<=d.getD i' 0
theorem al3{n N to h x:Nat}{a0:pE}{r1:List Int}(hg:X7 a0.uses N)(hr:r1.length=N)(hn:4000001<=n)(v:Int×Int×List Int×List Int)(hv:BS a0.uses N to h x v):
 (∃ v',gD n a0 r1 x v=some (.inl v')/\BS a0.uses N to h x v'/\N-v'.2.1.toNat<N-v.2.1.toNat)\/
 ∃q,gD n a0 r1 x v=some (.inr q)/\∃(o:Nat)(F:List Nat),q.1=(o:Int)/\o<=q.2.2.length/\q.2.2.drop o=(F.drop (h+1)).map (λ k:Nat=>(k:Int))/\BI a0.uses N to (h+1) q.2.1 F:=by
 obtain⟨v4,v5,d,v7⟩:=v;obtain⟨o,i,F,rfl,rfl,ho,hq,hi,hb,hx,hc⟩:=hv;have hx':x<N:=hb.rg x (bZ hx);have GS:=hg.1;have hdl:=hb.dl;by_cases hlt:i<N;left;have wx:i<a0.uses.length:=by omega
 have hl:=hg.2.2 a0.uses[i] (getElem_mem wx);have hcon:=KO (n:=n) (l:=a0.uses[i]) (a:=(x:Int)) (by omega) (by omega);have hud:a0.uses.getD i []=a0.uses[i]:=by simp[wx]
 have hdi:d[i]'(by omega)=d.getD i 0:=by simp[show i<d.length by omega]
 have GT:d[x]'(by omega)=d.getD x 0:=by simp[show x<d.length by omega]
 simp only[gD,show decide ((i:Int)<((a0.uses.length:Int)))=true from by simp;omega,aj,bG wx,ai,aW (show i<r1.length by omega),aW (show x<r1.length by omega),
  bI (show i<d.length by omega),bI (show x<d.length by omega),hcon,hdi,GT]
 have hFl:=hb.len;have hN:=hg.2.1;have hlen:v7.length-o=F.length-(h+1):=by have:=congrArg List.length hq;simpa using this
 have hmx:maxLen=9223372036854775807:=rfl;by_cases hA:d.getD i 0<0/\(x:Int)∈a0.uses[i];have h1:(a0.uses[i].any λy=>(x:Int)==y)=true:=any_eq_true.2 ⟨_,hA.2,by simp⟩;have hx0:0<=d.getD x 0:=(hb.mem x hx').2 (bZ hx);have hxu:=hb.ub h x hx;have hFh:h<F.length:=(dh.1 hx).1;have hap:bL (v7.drop o).length (v7.length-o) (sub [(i:Int)] 0 1).length 1 8=true:=by simp[bL,sub];omega
 have hw:i64.wrap (d.getD x 0+1)=d.getD x 0+1:=aO (by omega) (by omega);refine⟨(((0:Nat):Int),((i+1:Nat):Int),d.set i (d.getD x 0+1),v7.drop o++[(i:Int)]),?_,?_,by show N-((i+1:Nat):Int).toNat<N-(i:Int).toNat;omega⟩;simp only[hA.1,decide_true,aj,ai,h1,Int.toNat_natCast,pn,hap,gJ,hw,aY i];simp[sub];refine⟨0,i+1,F++[i],rfl,rfl,Nat.zero_le _,?_,by omega,hb.push hlt hA.1 hx (by rw[hud];exact hA.2),by rw[List.getElem?_append_left hFh];exact hx,?_⟩;rw[List.drop_zero,hq,List.drop_append_of_le_length (by omega)];simp;intro i' hi' hm;have hpush:=hb.push hlt hA.1 hx (by rw[hud];exact hA.2);by_cases e:i'=i;subst e;exact(hpush.mem i' hlt).2 (by simp);have:=hc i' (by omega) hm;exact(hpush.mem i' (by omega)).2 (List.mem_append_left _ ((hb.mem i' (by omega)).1 this));have hB:(bif decide (d.getD i 0<0)then some (a0.uses[i].any λy=>(x:Int)==y)else some false)=some false:=by
  by_cases h2:d.getD i 0<0;simp only[h2,decide_true,aj,bM];cases hc:(a0.uses[i].any λy=>x==y)with
  |false=>rfl
  |true=>
   obtain⟨y,hy,e⟩:=any_eq_true.1 hc;obtain rfl:x=y:=(by simpa using e);exact absurd ⟨h2,hy⟩ hA
  simp only[h2,decide_false,ax]
 refine⟨(o,(i+1:Nat),d,v7),?_,?_,by show N-((i+1:Nat):Int).toNat<N-(i:Int).toNat;omega⟩;rw[hB];simp[qw (show o+(v7.length-o)=v7.length by omega),aY i];refine⟨o,i+1,F,rfl,rfl,ho,hq,by omega,hb,hx,λi' hi' hm=>?_⟩;by_cases e:i'=i;subst e;rw[hud]at hm;exact Int.not_lt.1 λh2=>hA ⟨h2,hm⟩;exact hc i' (by omega) hm;right;have hiN:i=N:=by omega
 have hFh:h<F.length:=(dh.1 hx).1;refine⟨(o,d,v7),?_,o,F,rfl,ho,hq,?_⟩;simp only[gD,show decide ((i:Int)<(a0.uses.length))=false from by simp;omega,ax,Int.toNat_natCast,qw (show o+(v7.length-o)=v7.length by omega),aj];refine⟨hb.dl,hb.nd,hb.rg,hb.mem,hb.ub,hb.pre,hb.hd,hFh,λp y hp hy j hj hm=>?_⟩;by_cases e:p=h;subst e;rw[hx]at hy;cases hy;exact hc j (by omega) hm;exact hb.cl p y (by omega) hy j hj hm
def BO(us:List (List Int))(N to h:Nat):(Int×List Int×List Int)->Prop
 |(v1,d,v3)=>∃(o:Nat)(F:List Nat),v1=o/\o<=v3.length/\v3.drop o=(F.drop h).map (λ k:Nat=>(k:Int))/\BI us N to h d F
theorem al4{n N to h:Nat}{a0:pE}{r1:List Int}(hg:X7 a0.uses N)(hr:r1.length=N)(hn:4000001<=n)(v:Int×List Int×List Int)(hv:BO a0.uses N to h v):
 (∃ v',dX n a0 r1 v=some (.inl v')/\BO a0.uses N to (h+1) v')\/∃d,dX n a0 r1 v=some (.inr d)/\∃F,BI a0.uses N to F.length d F:=by
 obtain⟨v1,d,v3⟩:=v;obtain⟨o,F,rfl,ho,hq,hb⟩:=hv;have hlen:v3.length-o=F.length-h:=by have:=congrArg List.length hq;simpa using this
 by_cases hlt:h<F.length;left;obtain⟨x,hx⟩:∃x,F[h]? =some x:=⟨_,dJ hlt⟩;have hox:v3[o]? =some x:=by have:=congrArg (λ l=>l[0]?) hq;simpa[hx]using this
 have hdr:v3.drop (o+1)=(F.drop (h+1)).map (λ k:Nat=>(k:Int)):=by have:=congrArg (λ l=>l.drop 1) hq;simpa using this
 obtain⟨q,hq1,o2,F2,hq2,hq3,hq4,hq5⟩:=ahB (BS a0.uses N to h x) (λ q:Int×List Int×List Int=>∃(o:Nat)(F:List Nat),q.1=o/\o<=q.2.2.length/\q.2.2.drop o=(F.drop (h+1)).map (λ k:Nat=>(k:Int))/\BI a0.uses N to (h+1) q.2.1 F)
  (λ v=>N-v.2.1.toNat) (al3 (r1:=r1) hg hr hn) n ((o+1:Nat),0,d,v3) ⟨o+1,0,F,rfl,rfl,by omega,hdr,Nat.zero_le _,hb,hx,λi' hi'=>absurd hi' (Nat.not_lt_zero _)⟩ (by have:=hg.2.1;simp;omega)
 obtain⟨w1,w2,w3⟩:=q;simp only at hq2 hq3 hq4 hq5;subst hq2;refine⟨(o2,w2,w3),?_,o2,F2,rfl,hq3,hq4,hq5⟩;have hat:b7 v3 (o+0)=some (x:Int):=by rw[Int.add_zero,Aw];exact hox
 simp only[dX,Int.toNat_natCast,show decide (((v3.length-o:Nat):Int)>0)=true from by simp;omega,aj,show cx 0 (v3.length-o)=true from by simp[cx];omega,hat,ai,
  xR (show 0<=1 by omega) (show (1:Int)<=(v3.length-o:Nat)by omega) (Int.le_refl _),qw (show o+1+(v3.length-o-1)=v3.length by omega),hq1,qw (show o2+(w3.length-o2)=w3.length by omega)]
 right;have hhF:h=F.length:=by have:=hb.hh;omega
 refine⟨d,?_,F,hhF ▸ hb⟩;simp only[dX,Int.toNat_natCast,show decide (((v3.length-o:Nat):Int)>0)=false from by simp;omega,ax]
theorem fC{V O:Type}{step:V->Option (V⊕O)}(Inv:Nat->V->Prop)(Post:O->Prop)(K:Nat)(hK:∀k v,Inv k v->k<=K)
 (h:∀k v,Inv k v->(∃ v',step v=some (.inl v')/\Inv (k+1) v')\/∃o,step v=some (.inr o)/\Post o):∀(n k:Nat)(v:V),Inv k v->K<n+k->∃o,iter step n v=some o/\Post o
 | 0,k,v,hi,hn=>absurd (hK k v hi) (by omega)
 |n+1,k,v,hi,hn=>by rcases h k v hi with ⟨v',h1,h2⟩|⟨o,h1,h2⟩;rw[dL h1];exact fC Inv Post K hK h n (k+1) v' h2 (by omega);exact⟨o,cK h1,h2⟩
theorem aa5{n N to:Nat}{a0:pE}(hg:X7 a0.uses N)(hd:a0.defs.length=N)(hn:4000002<=n)(ht:to<N):∃d F,jY n a0 to=some d/\BI a0.uses N to F.length d F:=by
 have hN:=hg.2.1;have hr:qN (sub ([(-1)]:List Int) 0 1) N=some (List.replicate N (-1)):=by show(ck (decide (0<=(N:Int))&&decide ((N:Int)<=1000000000000)) (some (List.replicate (N:Int).toNat (-1))))=_;rw[show decide (0<=(N:Int))=true by simp,show decide ((N:Int)<=1000000000000)=true by simp;omega];rfl
 have hlr:(List.replicate N (-1:Int)).length=N:=List.length_replicate;have hb0:BI a0.uses N to 0 ((List.replicate N (-1:Int)).set to 0) [to]:=by
  have hto:((List.replicate N (-1:Int)).set to 0).getD to 0=0:=by simp[ht]
  refine⟨by simp,by simp,λx hx=>by simp at hx;omega,λi hi=>?_,λj x hx=>?_,λj x hx hj=>?_,⟨rfl,hto⟩,by simp,λp y hp=>absurd hp (Nat.not_lt_zero _)⟩;by_cases e:to=i;subst e;rw[hto];simp;simp[List.getElem?_set_ne e];simp[hi,Ne.symm e];cases j with
  |zero=>simp at hx;subst hx;rw[hto];simp
  |succ j=>simp at hx
  cases j with
  |zero=>omega
  |succ j=>simp at hx
 obtain⟨d,h1,F,h2⟩:=fC (step:=dX n a0 (List.replicate N (-1))) (λ h v=>BO a0.uses N to h v) (λ d=>∃F,BI a0.uses N to F.length d F) N (λ h v ⟨_,_,_,_,_,hb⟩=>Nat.le_trans hb.hh hb.len) (λ h v hv=>al4 (n:=n) (r1:=List.replicate N (-1)) hg hlr (by omega) v hv) n 0
  ((0:Nat),(List.replicate N (-1:Int)).set to 0,[to]) ⟨0,[to],rfl,Nat.zero_le _,rfl,hb0⟩ (by omega)
 refine⟨d,F,?_,h2⟩;have hdl:d.length=N:=h2.dl;have h1':iter (dX n a0 (List.replicate N (-1))) n (0,(List.replicate N (-1:Int)).set to 0,[to])=some d:=h1;simp only[jY,hd,hr,ai,hlr,aW ht,bI (show to<(List.replicate N (-1:Int)).length by omega),aj,show(((0:Nat):Int)+to).toNat=to by omega,h1];simp[sub,hdl];exact take_of_length_le (Nat.le_of_eq hdl)
def Nr(d:List Int)(l:List Int)(w:Int):Prop:=
 (w=-1/\∀k∈l,d.getD k.toNat 0<0)\/(w∈l/\0<=d.getD w.toNat 0/\∀k∈l,0<=d.getD k.toNat 0->d.getD w.toNat 0<=d.getD k.toNat 0)
theorem Nr.snoc{d l:List Int}{w k:Int}(h:Nr d l w)(hk:0<=k)(hl:∀x∈l,0<=x):Nr d (l++[k]) (if 0<=d.getD k.toNat 0/\(w<0\/d.getD k.toNat 0<d.getD w.toNat 0)then k else w):=by split;rename_i h1;refine .inr ⟨by simp,h1.1,λz hz h0=>?_⟩;rw[bK]at hz;rcases hz with hz|hz;rcases h with ⟨rfl,h⟩|⟨hw,hw0,h⟩;have:=h z hz;omega;have h2:=h z hz h0;have:=hl w hw;rcases h1.2 with h3|h3<;>omega;simp at hz;subst hz;exact Int.le_refl _;rename_i h1;rcases h with ⟨rfl,h⟩|⟨hw,hw0,h⟩;refine .inl ⟨rfl,λz hz=>?_⟩;rw[bK]at hz;rcases hz with hz|hz;exact h z hz;simp at hz;subst hz;exact Int.not_le.1 λh2=>h1 ⟨h2,.inl (by omega)⟩;refine .inr ⟨List.mem_append_left _ hw,hw0,λz hz h0=>?_⟩;rw[bK]at hz;rcases hz with hz|hz;exact h z hz h0;simp at hz;subst hz;exact Int.not_lt.1 λh2=>h1 ⟨h0,.inr h2⟩
theorem al5{n N:Nat}{d l:List Int}(hd:d.length=N)(hl:l.length<=4000000)(hr:∀k∈l,0<=k/\k<N)(hn:4000001<=n):∃w,iter (iV d l) n (-1,0)=some w/\Nr d l w:=by
 refine fC (λ i (v:Int×Int)=>i<=l.length/\v.2=i/\Nr d (l.take i) v.1) (λ w=>Nr d l w) l.length (λ k v h=>h.1) ?_ n 0 _ ⟨Nat.zero_le _,rfl,.inl ⟨rfl,by simp⟩⟩ (by omega);rintro i ⟨v3,v4⟩ ⟨hi,rfl,hN⟩;by_cases hlt:i<l.length;left;have hk:=hr l[i] (getElem_mem hlt);obtain⟨k,hk2⟩:=Int.eq_ofNat_of_zero_le hk.1;have hkN:k<d.length:=by omega
 have Jn:d[k]=d.getD k 0:=by simp[hkN]
 have htk:l.take (i+1)=l.take i++[l[i]]:=by rw[List.take_add_one,dJ hlt];rfl
 have hlk:∀x∈l.take i,0<=x:=λx hx=>(hr x (List.mem_of_mem_take hx)).1;have hsn:=hN.snoc hk.1 hlk;refine⟨(if 0<=d.getD (l[i]).toNat 0/\(v3<0\/d.getD (l[i]).toNat 0<d.getD v3.toNat 0)then l[i]else v3,(i+1:Nat)),?_,hlt,rfl,by rw[htk];exact hsn⟩;simp only[iV,show decide ((i:Int)<l.length)=true from by simp;omega,aj,bG hlt,ai,hk2,aW hkN,bI hkN,Jn,Int.toNat_natCast,aY i];by_cases h0:0<=d.getD k 0;by_cases h1:v3<0;simp only[h0,h1,decide_true,aj,ai,true_and,true_or,if_true];have hv:v3∈l.take i:=by rcases hN with ⟨rfl,_⟩|⟨h,_⟩;omega;exact h
 have B9:=hr v3 (List.mem_of_mem_take hv);obtain⟨z,hz⟩:=Int.eq_ofNat_of_zero_le B9.1;subst hz;have GM:z<d.length:=by omega
 have hgz:d[z]=d.getD z 0:=by simp[GM]
 simp only[h0,decide_true,aj,h1,decide_false,ax,aW GM,bI GM,ai,hgz,Int.toNat_natCast,true_and,false_or];by_cases h2:d.getD k 0<d.getD z 0;simp only[h2,decide_true,aj,if_true,ai];simp only[h2,decide_false,ax,if_false,ai];simp only[h0,decide_false,ax,ai,false_and,if_false];right;refine⟨v3,?_,?_⟩;simp only[iV,show decide ((i:Int)<l.length)=false from by simp;omega,ax];rw[take_of_length_le (by omega)]at hN;exact hN
theorem BI.step{us:List (List Int)}{N to h:Nat}{d:List Int}{F:List Nat}(b:BI us N to h d F){x:Nat}(hx:x<N)(hne:x≠to)(h0:0<=d.getD x 0):∃y:Nat,(y:Int)∈us.getD x []/\d.getD y 0=d.getD x 0-1/\0<=d.getD y 0:=by
 obtain⟨j,hj,hjx⟩:=mem_iff_getElem.1 ((b.mem x hx).1 h0);have hj':F[j]? =some x:=by rw[dJ hj,hjx]
 have hj0:0<j:=by
  cases j with
  |zero=>rw[b.hd.1]at hj';cases hj';exact absurd rfl hne
  |succ j=>exact Nat.succ_pos _
 have⟨p,y,_,h2,h3,h4⟩:=b.pre j x hj' hj0;have hyF:=bZ h2;exact⟨y,h3,h4,(b.mem y (b.rg y hyF)).2 hyF⟩
theorem aiO{n N fr:Nat}{a1:List gP}{us:List (List Int)}(hg:X7 us N)(hd:a1.length=N)(hn:4000003<=n)(hf:fr<N):∃d F c,BI us N fr F.length d F/\j5 n fr a1 us=some (a1,us,c)/\c.length<=N+1/\(c=[]->∀k∈us.getD fr [],d.getD k.toNat 0<0):=by
 obtain⟨d,F,hdi,hb⟩:=aa5 (n:=n) (a0:=pE.mk a1 us) hg hd (by omega) hf;have hN:=hg.2.1;have GS:=hg.1;have hmx:maxLen=9223372036854775807:=rfl;have hloop:∃o,iter (lu n fr a1 us d) n (fr,[])=some o/\∃c,o=.inr (a1,us,c)/\c.length<=N+1/\(c=[]->∀k∈us.getD fr [],d.getD k.toNat 0<0):=by
  refine fC (λ k (v:Int×List ByteArray)=>∃at_:Nat,v.1=at_/\at_<N/\v.2.length=k/\k<=N/\((k=0/\at_=fr)\/(0<k/\at_≠fr/\0<=d.getD at_ 0/\d.getD at_ 0+k<=N))) _ N (λ k v ⟨_,_,_,_,h,_⟩=>h) ?_ n 0 _ ⟨fr,rfl,hf,rfl,Nat.zero_le _,.inl ⟨rfl,rfl⟩⟩ (by omega);rintro k ⟨v1,v2⟩ ⟨x,rfl,hx,hv2,hkN,hst⟩;simp at hv2;have hxa:x<a1.length:=by omega
  have hxu:x<us.length:=by omega
  have hl:=hg.2.2 us[x] (getElem_mem hxu);obtain⟨w,hw,hnr⟩:=al5 (n:=n) (d:=d) (l:=us[x]) hb.dl hl.1 hl.2 (by omega);have hgu:us.getD x []=us[x]:=by simp[hxu]
  have hap:bL v2.length v2.length (sub [a1[x].name] 0 1).length 1 16=true:=by simp[bL,sub];omega
  simp only[lu,bG hxa,bG hxu,ai,hap,aj,gJ,hw];have hsl:(v2++sub [a1[x].name] 0 1).length=k+1:=by simp[sub,hv2]
  have hne:((v2++sub [a1[x].name] 0 1).length==0)=false:=by rw[hsl];simp
  rcases hnr with ⟨rfl,hno⟩|⟨Wr,hw0,hmin⟩;right;refine⟨.inr (a1,us,[]),by simp,[],rfl,by simp,λ_=>?_⟩;rcases hst with ⟨_,rfl⟩|⟨_,Wf,hx0,_⟩;rw[hgu];exact hno;have⟨y,hy,_,hy0⟩:=hb.step hx Wf hx0;have hy':(y:Int)∈us[x]:=by rw[<- hgu];exact hy
  have:=hno _ hy';simp only[Int.toNat_natCast]at this;omega;have hwr:=hl.2 w Wr;obtain⟨z,rfl⟩:=Int.eq_ofNat_of_zero_le hwr.1;simp only[Int.toNat_natCast]at hw0 hmin;by_cases B7:z=fr;right;subst B7;refine⟨.inr (a1,us,v2++sub [a1[x].name] 0 1),?_,_,rfl,by omega,λh=>by rw[h]at hsl;simp at hsl⟩;simp only[show decide ((z:Int)<0)=false from by simp,ax,beq_self_eq_true,aj,hne,Bool.not_false,Bool.true_and,aN,Option.map_some];left;have GM:z<N:=by omega
  have hb1:d.getD z 0+(k+1:Nat)<=N:=by rcases hst with ⟨hk0,rfl⟩|⟨_,Wf,hx0,hle⟩;have hzF:=(hb.mem z GM).1 hw0;obtain⟨j,hj,hjz⟩:=mem_iff_getElem.1 hzF;have h3:=hb.ub j z (by rw[dJ hj,hjz]);have:=hb.len;omega;have⟨y,hy,hyd,hy0⟩:=hb.step hx Wf hx0;have:=hmin y (by rw[<- hgu];exact hy) (by simpa using hy0);simp only[Int.toNat_natCast]at this;omega
  refine⟨(z,v2++sub [a1[x].name] 0 1),?_,z,rfl,GM,hsl,by omega,.inr ⟨Nat.succ_pos _,B7,hw0,hb1⟩⟩;simp[show decide ((z:Int)<0)=false from by simp,show((z:Int)==fr)=false from by simp;omega]
 obtain⟨o,h1,c,rfl,h2⟩:=hloop;refine⟨d,F,c,hb,?_,h2⟩;simp only[j5,hdi,ai,h1];simp
theorem aa6(a b:ByteArray):∃r,nO a b=some r:=by simp[nO,cmp_isNaN_string];cases (!a.toList==a.toList)<;>cases (!b.toList==b.toList)<;>cases UF a b<;>cases (a.toList==b.toList)<;>exact⟨_,rfl⟩
theorem aa7{a b:List ByteArray}(ha:a.length<=5000000)(hn:5000001<=n):∃r,l5 n a b=some r:=by
 obtain⟨o,h,_⟩:=fC (step:=lZ a b) (λ i v=>v=i/\i<=a.length) (λ _=>True) a.length (λ k v h=>h.2) (by
  rintro i v ⟨rfl,hi⟩;by_cases hlt:i<a.length;simp only[lZ,show decide ((i:Int)<a.length)=true from by simp;omega,aj,bG hlt,ai];by_cases hb:i<b.length;have⟨r,hr⟩:=aa6 a[i] b[i];simp only[show decide ((i:Int)>=b.length)=false from by simp;omega,ax,bG hb,ai,hr];cases hr0:(r !=0)with
  |true=>exact .inr ⟨_,rfl,trivial⟩
  |false=>exact .inl ⟨_,rfl,by rw[aQ (by omega)],by omega⟩
  simp only[show decide ((i:Int)>=b.length)=true from by simp;omega,aj];exact .inr ⟨_,rfl,trivial⟩;simp only[lZ,show decide ((i:Int)<a.length)=false from by simp;omega,ax];exact .inr ⟨_,rfl,trivial⟩) n 0 0 ⟨rfl,Nat.zero_le _⟩ (by omega)
 simp only[l5,h];cases o with
 |inl u=>cases u;simp only[jB];cases decide ((a.length:Int)<b.length)<;>exact⟨_,rfl⟩
 |inr r=>exact⟨r,by simp⟩
def kw(us:List (List Int))(N j:Nat):Prop:=∃d F,BI us N j F.length d F/\∀k∈us.getD j [],d.getD k.toNat 0<0
theorem adr{n N:Nat}{a0:List gP}{us:List (List Int)}(hg:X7 us N)(hd:a0.length=N)(hn:5000003<=n):∃c,jk n a0 us=some (a0,us,c)/\(c=[]->∀j,j<N->kw us N j)/\c.length<=N+1:=by
 have hN:=hg.2.1
 obtain⟨o,h1,c,rfl,h2⟩:=fC (step:=iF n a0) (λ i (v:Int×List gP×List (List Int)×List ByteArray)=>∃c,v=((i:Int),a0,us,c)/\i<=N/\c.length<=N+1/\(c=[]->∀j,j<i->kw us N j))
  (λ o=>∃c,o=(a0,us,c)/\(c=[]->∀j,j<N->kw us N j)/\c.length<=N+1) N (λ k v ⟨_,_,h,_⟩=>h) (by
  rintro i v ⟨c,rfl,hi,hcl,hc⟩;by_cases hlt:i<N;left;obtain⟨d,F,c2,hb,hci,aot,hc2⟩:=aiO (n:=n) (a1:=a0) hg hd (by omega) hlt;simp only[iF,show decide ((i:Int)<a0.length)=true from by simp;omega,aj,hci,ai,aY i,jh,aN];have hfin:∀c':List ByteArray,c'.length<=N+1->(c'=[]->c=[]/\c2=[])->∃c'',(((i+1:Nat):Int),a0,us,c')=(((i+1:Nat):Int),a0,us,c'')/\i+1<=N/\c''.length<=N+1/\(c''=[]->∀j,j<i+1->kw us N j):=λc' hl' he=>
   ⟨c',rfl,hlt,hl',λe j hj=>by have⟨e1,e2⟩:=he e;by_cases h:j=i;subst h;exact⟨d,F,hb,hc2 e2⟩;exact hc e1 j (by omega)⟩
  obtain⟨r,hr⟩:=aa7 (n:=n) (a:=c2) (b:=c) (by omega) (by omega);cases h0:(c2.length==0)with
  |true=>
   have e2:c2=[]:=List.eq_nil_of_length_eq_zero (by simpa using h0);exact⟨_,by simp,hfin c hcl λe=>⟨e,e2⟩⟩
  |false=>
   have hne:c2≠[]:=λe=>(by rw[e]at h0;simp at h0);simp only[ax,ai];have key:∃b,(bif c.length==0 then some true else bif decide ((c2.length:Int)<c.length)then some true else bif(c2.length:Int)==c.length then(l5 n c2 c).bind λr2=>some (decide (r2<0))else some false)=some b/\(c.length=0->b=true):=by
    cases h3:(c.length==0)with
    |true=>exact⟨true,rfl,λ_=>rfl⟩
    |false=>
     have hcn:c.length≠0:=(by simpa using h3);simp only[ax,hr,ai];cases decide ((c2.length:Int)<c.length)<;>cases ((c2.length:Int)==c.length)<;>exact⟨_,rfl,λe=>absurd e hcn⟩
   obtain⟨b,hb1,hb2⟩:=key;rw[hb1];cases b with
   |true=>exact⟨_,by simp,hfin c2 aot λe=>absurd e hne⟩
   |false=>exact⟨_,by simp,hfin c hcl λe=>by rw[e]at hb2;exact absurd (hb2 rfl) (by simp)⟩
  right;refine⟨(a0,us,c),?_,c,rfl,λe j hj=>hc e j (by omega),hcl⟩;simp only[iF,show decide ((i:Int)<a0.length)=false from by simp;omega,ax,aN,aj]) n 0 (0,a0,us,[]) ⟨[],rfl,Nat.zero_le _,by simp,λ_ j hj=>absurd hj (Nat.not_lt_zero _)⟩ (by omega)
 exact⟨c,by simp[jk,h1],h2⟩
theorem BI.back{us:List (List Int)}{N to:Nat}{d:List Int}{F:List Nat}(b:BI us N to F.length d F){i y:Nat}(hi:i<N)(hy:y<N)(h:(y:Int)∈us.getD i [])(h0:0<=d.getD y 0):0<=d.getD i 0:=by obtain⟨j,hj,hjy⟩:=mem_iff_getElem.1 ((b.mem y hy).1 h0);exact b.cl j y hj (by rw[dJ hj,hjy]) i hi h
theorem al6{us:List (List Int)}{N:Nat}(hg:X7 us N)(hf:∀j,j<N->kw us N j)(done:Nat->Prop){i0:Nat}(h0:i0<N)(hd0:¬done i0):∃i,i<N/\¬done i/\∀k∈us.getD i [],done k.toNat:=by
 refine rQ λhno=>?_;have hstep:∀i:{i:Nat // i<N/\¬done i},∃k:{k:Nat // k<N/\¬done k},(k.1:Int)∈us.getD i.1 []:=by
  rintro⟨i,hi,hnd⟩;refine rQ λh=>hno ⟨i,hi,hnd,λk hk=>rQ λhkd=>h ?_⟩;have hl:us.getD i []∈us:=by have:i<us.length:=(by rw[hg.1];exact hi);simp[this]
  have hr:=(hg.2.2 _ hl).2 k hk;exact⟨⟨k.toNat,by omega,hkd⟩,by show(k.toNat:Int)∈_;rw[Int.toNat_of_nonneg hr.1];exact hk⟩
 obtain⟨f,hfs⟩:=Classical.axiomOfChoice hstep
 let g:Nat->{i:Nat // i<N/\¬done i}:=λj=>Nat.rec ⟨i0,h0,hd0⟩ (λ _ x=>f x) j
 have hgs:∀j,((g (j+1)).1:Int)∈us.getD (g j).1 []:=λj=>hfs (g j);have hnd:¬((List.range (N+1)).map λj=>(g j).1).Nodup:=λh=>by
  have:=HY N _ h λy hy=>by obtain⟨j,_,rfl⟩:=mem_map.1 hy;exact(g j).2.1
  rw[length_map,List.length_range]at this;omega
 obtain⟨a,b,hab,he⟩:∃a b,a<b/\(g a).1=(g b).1:=by refine rQ λh=>hnd ?_;rw[List.nodup_iff_pairwise_ne,List.pairwise_map];exact List.pairwise_lt_range.imp λ{x y} hxy e=>h ⟨x,y,hxy,e⟩
 obtain⟨d,F,hb,hneg⟩:=hf _ (g a).2.1;have hall:∀c,a<b-c->c<b-a->0<=d.getD (g (b-c)).1 0:=by
  intro c
  induction c with
  |zero=>intro _ _;rw[Nat.sub_zero,<- he,hb.hd.2];exact Int.le_refl _
  |succ c ih=>
   intro h1 h2;have:=ih (by omega) (by omega);have e:b-c=b-(c+1)+1:=(by omega);rw[e]at this;exact hb.back (g (b-(c+1))).2.1 (g (b-(c+1)+1)).2.1 (hgs (b-(c+1))) this
 have h1:=hall (b-a-1) (by omega) (by omega);have e:b-(b-a-1)=a+1:=by omega
 rw[e]at h1;have h2:=hneg _ (hgs a);simp only[Int.toNat_natCast]at h2;omega
theorem ads{n N:Nat}{l:List Int}{done:List Bool}(hd:done.length=N)(hl:l.length<=4000000)(hr:∀k∈l,0<=k/\k<N)(hn:4000001<=n):
 ∃r,iO n l done=some (r,done)/\(r=false↔∀k∈l,done.getD k.toNat false=true):=by
 obtain⟨o,h1,h2⟩:=fC (step:=jZ l) (λ i (v:Int×List Bool)=>v=((i:Int),done)/\i<=l.length/\∀k∈l.take i,done.getD k.toNat false=true)
  (λ o=>(o=.inl done/\∀k∈l,done.getD k.toNat false=true)\/∃i:Nat,o=.inr (i,done)/\∃k∈l,done.getD k.toNat false=false) l.length (λ k v h=>h.2.1) (by
  rintro i v ⟨rfl,hi,hall⟩;by_cases hlt:i<l.length;have hk:=hr l[i] (getElem_mem hlt);obtain⟨k,hk2⟩:=Int.eq_ofNat_of_zero_le hk.1;have hkN:k<done.length:=by omega
  have Jn:done[k]=done.getD k false:=by simp[hkN]
  have htk:l.take (i+1)=l.take i++[l[i]]:=by rw[List.take_add_one,dJ hlt];rfl
  simp only[jZ,show decide ((i:Int)<l.length)=true from by simp;omega,aj,bG hlt,ai,aN,hk2,mI,aW hkN,bI hkN,Jn];cases hdk:done.getD k false with
  |true=>
   refine .inl ⟨_,by simp;rfl,by rw[aQ (by omega)],hlt,λz hz=>?_⟩;rw[htk,bK]at hz;rcases hz with hz|hz;exact hall z hz;simp at hz;rw[hz,hk2];simpa using hdk
  |false=>exact .inr ⟨_,by simp,.inr ⟨i,rfl,l[i],getElem_mem hlt,by rw[hk2];simpa using hdk⟩⟩
  refine .inr ⟨.inl done,?_,.inl ⟨rfl,by rw[take_of_length_le (by omega)]at hall;exact hall⟩⟩;simp only[jZ,show decide ((i:Int)<l.length)=false from by simp;omega,ax,aN,aj]) n 0 (0,done) ⟨rfl,Nat.zero_le _,by simp⟩ (by omega)
 rcases h2 with ⟨rfl,h2⟩|⟨i,rfl,k,hk,hkd⟩;exact⟨false,by simp[iO,mZ,h1],λ_=>h2,λ_=>rfl⟩;refine⟨true,by simp[iO,mZ,h1],λh=>(by cases h),λh=>?_⟩;rw[h k hk]at hkd;cases hkd
def OF(us:List (List Int))(N:Nat)(done:List Bool)(i:Nat)(w:Int):Prop:=
 (w=-1/\∀j,j<i->¬(done.getD j false=false/\∀k∈us.getD j [],done.getD k.toNat false=true))\/∃j:Nat,w=j/\j<i/\done.getD j false=false
theorem akF{n N:Nat}{a0:pE}{done:List Bool}(hg:X7 a0.uses N)(hd:a0.defs.length=N)(hl:done.length=N)(hn:4000002<=n):∃w,iter (ja n a0) n (-1,0,done)=some (w,done)/\OF a0.uses N done N w:=by
 have hN:=hg.2.1;have GS:=hg.1;obtain⟨o,h1,w,rfl,h2⟩:=fC (step:=ja n a0) (λ i (v:Int×Int×List Bool)=>∃w,v=(w,(i:Int),done)/\i<=N/\OF a0.uses N done i w) (λ o=>∃w,o=(w,done)/\OF a0.uses N done N w) N (λ k v ⟨_,_,h,_⟩=>h) (by
  rintro i v ⟨w,rfl,hi,hw⟩;by_cases hlt:i<N;left;have hiu:i<a0.uses.length:=by omega
  have hid:i<a0.defs.length:=by omega
  have hib:i<done.length:=by omega
  have hl2:=hg.2.2 a0.uses[i] (getElem_mem hiu);obtain⟨r,hr1,hr2⟩:=ads (n:=n) hl hl2.1 hl2.2 (by omega);have hgi:a0.uses.getD i []=a0.uses[i]:=by simp[hiu]
  have hdi:done[i]=done.getD i false:=by simp[hib]
  simp only[ja,show decide ((i:Int)<a0.uses.length)=true from by simp;omega,aj,bG hiu,ai,aN,hr1,aW hib,bI hib,hdi,aY i];have keep:(done.getD i false=true\/r=true)->OF a0.uses N done (i+1) w:=by intro hno;rcases hw with ⟨rfl,hw⟩|⟨j,rfl,hj,hw⟩;refine .inl ⟨rfl,λj hj h=>?_⟩;by_cases e:j=i;subst e;rw[hgi]at h;rcases hno with h3|h3;rw[h3]at h;exact absurd h.1 (by simp);have:=hr2.2 h.2;rw[h3]at this;cases this;exact hw j (by omega) h;exact .inr ⟨j,rfl,by omega,hw⟩
  cases hdn:done.getD i false with
  |true=>exact⟨_,by simp,w,rfl,hlt,keep (.inl hdn)⟩
  |false=>
   cases r with
   |true=>exact⟨_,by simp,w,rfl,hlt,keep (.inr rfl)⟩
   |false=>
    have al:OF a0.uses N done (i+1) i:=.inr ⟨i,rfl,by omega,hdn⟩;rcases hw with ⟨rfl,hw⟩|⟨j,rfl,hj,hw⟩;exact⟨_,by simp,_,rfl,hlt,al⟩;have hjd:j<a0.defs.length:=(by omega);simp only[Bool.not_false,aj,show decide (j<0)=false from by simp,ax,bG hid,bG hjd,ai];cases UF a0.defs[i].name a0.defs[j].name with
    |true=>exact⟨_,rfl,_,rfl,hlt,al⟩
    |false=>exact⟨_,rfl,_,rfl,hlt,.inr ⟨j,rfl,by omega,hw⟩⟩
  right;have hiN:i=N:=by omega
  refine⟨(w,done),?_,w,rfl,hiN ▸ hw⟩;simp only[ja,show decide ((i:Int)<a0.uses.length)=false from by simp;omega,ax,aN,aj]) n 0 (-1,0,done) ⟨_,rfl,Nat.zero_le _,.inl ⟨rfl,λj hj=>absurd hj (Nat.not_lt_zero _)⟩⟩ (by omega)
 exact⟨w,h1,h2⟩
theorem akG{n N:Nat}{a0:pE}(hg:X7 a0.uses N)(hd:a0.defs.length=N)(hf:∀j,j<N->kw a0.uses N j)(hn:4000002<=n):∃l,nP n a0=some l/\l.length=N/\∀k∈l,0<=k/\k<N:=by
 have hN:=hg.2.1;have hmx:maxLen=9223372036854775807:=rfl
 obtain⟨o,h1,h2⟩:=fC (step:=kW n a0) (λ c (v:Int×List Int×List Bool)=>∃out done,v=((c:Int),out,done)/\c<=N/\out.length=c/\(∀ k∈out,0<=k/\k<N)/\done.length=N/\done.count false=N-c)
  (λ o=>o.length=N/\∀k∈o,0<=k/\k<N) N (λ k v ⟨_,_,_,h,_⟩=>h) (by
  rintro c v ⟨out,done,rfl,hc,hol,hor,hdl,hcf⟩;by_cases hlt:c<N;left;have⟨w,hw1,hw2⟩:=akF (n:=n) hg hd hdl hn;have hopen:∃i0,i0<N/\done.getD i0 false=false:=by have hm:false∈done:=List.count_pos_iff.1 (by omega);obtain⟨i0,h0,e⟩:=mem_iff_getElem.1 hm;exact⟨i0,by omega,by simp[h0,e]⟩
  obtain⟨i0,h0,h0d⟩:=hopen;obtain⟨i,hi,hid,hia⟩:=al6 hg hf (λ j=>done.getD j false=true) h0 (by rw[h0d];simp);rcases hw2 with ⟨rfl,hw2⟩|⟨j,rfl,hj,hjd⟩;exact absurd ⟨Bool.eq_false_iff.2 hid,hia⟩ (hw2 i hi);have hjl:j<done.length:=by omega
  have hap:bL out.length out.length (sub [(j:Int)] 0 1).length 1 8=true:=by simp[bL,sub];omega
  have hset:(done.set j true).length=done.length:=by simp
  refine⟨((c+1:Nat),out++[(j:Int)],done.set j true),?_,_,_,rfl,hlt,by simp[hol],?_,by simp[hdl],?_⟩;simp only[kW,show decide ((c:Int)<a0.defs.length)=true from by simp;omega,aj,aN,hw1,ai,aW hjl,bI hjl,hap,gJ,aY c,show(((0:Nat):Int)+j).toNat=j by omega,qw hset.symm];simp[sub];intro k hk;rw[bK]at hk;rcases hk with hk|hk;exact hor k hk;simp at hk;subst hk;omega;have hjf:done[j]=false:=by simpa[List.getD,hjl]using hjd
  rw[List.count_set hjl,hcf,hjf];simp;omega;right;have:c=N:=by omega
  refine⟨out,?_,by omega,hor⟩;simp only[kW,show decide ((c:Int)<a0.defs.length)=false from by simp;omega,ax,aN,aj]) n 0 (0,[],List.replicate N false) ⟨[],_,rfl,Nat.zero_le _,rfl,by simp,by simp,by simp⟩ (by omega)
 refine⟨o,?_,h2⟩;have hmk:wC N 1=true:=by simp[wC];omega
 simp only[nP,hd,Int.le_refl,decide_true,Bool.true_and,show decide (0<=N)=true from by simp,hmk,aj,Int.toNat_natCast,h1,ai,jh,aN];simp
def pc(out:List aK)(s:aK):List aK:=
 match out.getLast? with
 |some q=>bif decide (s.from_<=q.to)then out.dropLast++[⟨q.from_,max q.to s.to⟩]else out++[s]
 |none=>[s]
theorem VQ out (s:aK):(pc out s).length<=out.length+1:=by
 unfold pc;cases out.getLast? with
 |none=>simp
 |some q=>simp;cases decide (s.from_<=q.to)<;>simp<;>omega
theorem afQ o (q s:aK):pc (o++[q]) s=bif decide (s.from_<=q.to)then o++[⟨q.from_,max q.to s.to⟩]else o++[q]++[s]:=by simp[pc]
abbrev F1(s:aK):Prop:=s.from_<s.to
def ia(l:List aK)(y:Int):Bool:=l.any λs=>decide (s.from_<=y)&&decide (y<s.to)
def Can(l:List aK):Prop:=l.Pairwise (λ a b=>a.to<b.from_)/\∀s∈l,F1 s
theorem M6 l y:ia l y=true↔∃s∈l,s.from_<=y/\y<s.to:=by simp[ia]
theorem Ew(l m:List aK) y:ia (l++m) y=(ia l y || ia m y):=by simp[ia]
theorem Jr y:ia [] y=false:=rfl
theorem om(s:aK) l y:ia (s::l) y=((decide (s.from_<=y)&&decide (y<s.to)) || ia l y):=by simp[ia]
theorem adt{l m:List aK}(h:l.Perm m) y:ia l y=ia m y:=by rw[kK,M6,M6];exact⟨λ ⟨s,hs,h1⟩=>⟨s,h.mem_iff.1 hs,h1⟩,λ⟨s,hs,h1⟩=>⟨s,h.mem_iff.2 hs,h1⟩⟩
theorem ahC:Can []:=⟨List.Pairwise.nil,by simp⟩
theorem akH{out:List aK}{s:aK}(hc:Can out)(hs:F1 s)(hb:∀o∈out,o.from_<=s.from_):
 Can (pc out s)/\(∀ o∈pc out s,o.from_<=s.from_)/\∀y,ia (pc out s) y=(ia out y || ia [s] y):=by rcases List.eq_nil_or_concat out with rfl|⟨o,q,rfl⟩;refine⟨⟨by simp[pc],by simp[pc];exact hs⟩,by simp[pc],λy=>by simp[pc,ia]⟩;rw[List.concat_eq_append]at*;obtain⟨h1,h2⟩:=hc;rw[pairwise_append]at h1;obtain⟨p1,_,p3⟩:=h1;have hq:F1 q:=h2 q (by simp);have hqs:q.from_<=s.from_:=hb q (by simp);rw[afQ];by_cases hj:s.from_<=q.to;simp only[hj,decide_true,aj];refine⟨⟨?_,?_⟩,?_,?_⟩;rw[pairwise_append];refine⟨p1,by simp,λa ha b hb'=>?_⟩;rw[bq]at hb';subst hb';exact p3 a ha q (by simp);intro a ha;rcases bK.1 ha with ha|ha;exact h2 a (by simp[ha]);rw[bq]at ha;subst ha;show q.from_<max q.to s.to;have:q.from_<q.to:=hq;omega;intro a ha;rcases bK.1 ha with ha|ha;exact hb a (by simp[ha]);rw[bq]at ha;subst ha;exact hqs;intro y;rw[Ew,Ew,Bool.or_assoc];congr 1;simp[om,Jr];rw[kK];simp;have:q.from_<q.to:=hq;have:s.from_<s.to:=hs;omega;simp only[hj,decide_false,ax];refine⟨⟨?_,?_⟩,?_,?_⟩;rw[pairwise_append];refine⟨?_,by simp,λa ha b hb'=>?_⟩;rw[pairwise_append];exact⟨p1,by simp,p3⟩;rw[bq]at hb';subst hb';rcases bK.1 ha with ha|ha;have:=p3 a ha q (by simp);have:q.from_<q.to:=hq;omega;rw[bq]at ha;subst ha;omega;intro a ha;rcases bK.1 ha with ha|ha;exact h2 a ha;rw[bq]at ha;subst ha;exact hs;intro a ha;rcases bK.1 ha with ha|ha;exact hb a ha;rw[bq]at ha;subst ha;exact Int.le_refl _;intro y;rw[Ew]
theorem Pn:∀(l out:List aK),Can out->(∀ s∈l,F1 s)->l.Pairwise (λ x y=>x.from_<=y.from_)->(∀ o∈out,∀s∈l,o.from_<=s.from_)->Can (l.foldl pc out)/\∀y,ia (l.foldl pc out) y=(ia out y || ia l y)
 |[],out,hc,_,_,_=>⟨hc,λy=>by simp[Jr]⟩
 |s::l,out,hc,hv,hp,hb=>by rw[pairwise_cons]at hp;obtain⟨m1,m2,m3⟩:=akH hc (hv s (by simp)) (λ o ho=>hb o ho s (by simp));obtain⟨f1,f2⟩:=Pn l (pc out s) m1 (λ t ht=>hv t (by simp[ht])) hp.2 (λ o ho t ht=>Int.le_trans (m2 o ho) (hp.1 t ht));refine⟨f1,λy=>?_⟩;rw[foldl_cons,f2,m3,Bool.or_assoc,<- Ew];rfl
theorem adu{a:aK}{l:List aK}(h:Can (a::l)):Can l:=⟨(pairwise_cons.1 h.1).2,λs hs=>h.2 s (by simp[hs])⟩
theorem Js{a:aK}{l:List aK}(h:Can (a::l)){y:Int}(hy:ia l y=true):a.to<y:=by obtain⟨s,hs,h1,_⟩:=(M6 _ _).1 hy;have:=(pairwise_cons.1 h.1).1 s hs;omega
theorem Zz{a:aK}{l:List aK}(h:Can (a::l)){y:Int}(hy:ia (a::l) y=true):a.from_<=y:=by rw[om,Bool.or_eq_true]at hy;rcases hy with hy|hy;simp at hy;exact hy.1;have:=Js h hy;have:a.from_<a.to:=h.2 a (by simp);omega
theorem VU:∀{l m:List aK},Can l->Can m->(∀ y,ia l y=ia m y)->l=m
 |[],[],_,_,_=>rfl
 |[],b::m,_,hm,h=>by have:=h b.from_;have hb:b.from_<b.to:=hm.2 b (by simp);rw[Jr,om]at this;simp[hb]at this
 |a::l,[],hl,_,h=>by have:=h a.from_;have ha:a.from_<a.to:=hl.2 a (by simp);rw[Jr,om]at this;simp[ha]at this
 |a::l,b::m,hl,hm,h=>by
  have ha:a.from_<a.to:=hl.2 a (by simp);have hb:b.from_<b.to:=hm.2 b (by simp);have ina:ia (a::l) a.from_=true:=by rw[om];simp[ha]
  have VM:ia (b::m) b.from_=true:=by rw[om];simp[hb]
  have e1:a.from_=b.from_:=by have h1:=Zz hm (by rw[<- h];exact ina);have h2:=Zz hl (by rw[h];exact VM);omega
  have nl:∀(c:aK) k,Can (c::k)->ia (c::k) c.to=false:=by
   intro c k hk;cases hc:ia (c::k) c.to with
   |false=>rfl
   |true=>
    rw[om,Bool.or_eq_true]at hc;rcases hc with hc|hc;simp at hc;have:=Js hk hc;omega
  have e2:a.to=b.to:=by rcases Int.lt_trichotomy a.to b.to with hlt|he|hlt;have h1:=nl a l hl;rw[h,om]at h1;simp at h1;omega;exact he;have h1:=nl b m hm;rw[<- h,om]at h1;simp at h1;omega
  have e:a=b:=by cases a;cases b;simp at e1 e2;rw[e1,e2]
  subst e;rw[VU (adu hl) (adu hm) λy=>?_];have hy:=h y;rw[om,om]at hy;cases h1:ia l y with
  |true=>
   have:=Js hl h1;have z:(decide (a.from_<=y)&&decide (y<a.to))=false:=(by rw[Bool.and_eq_false_iff,dN,dN];omega);rw[z,h1,Bool.false_or,Bool.false_or]at hy;rw[<- hy]
  |false=>
   cases h2:ia m y with
   |false=>rfl
   |true=>
    have:=Js hm h2;have z:(decide (a.from_<=y)&&decide (y<a.to))=false:=(by rw[Bool.and_eq_false_iff,dN,dN];omega);rw[z,h1,h2]at hy;simp at hy
def Fl(l:List aK):List aK:=(kN tB l).foldl pc []
theorem akI{l:List aK}(h:l.Pairwise λx y=>tB y x=false):l.Pairwise λx y=>x.from_<=y.from_:=
 h.imp λ{x y} hxy=>by simp at hxy;omega
theorem ZA{l:List aK}(h:∀s∈l,F1 s):Can (Fl l)/\∀y,ia (Fl l) y=ia l y:=by have hp:=Ea tB l;obtain⟨h1,h2⟩:=Pn (kN tB l) [] ahC (λ s hs=>h s (hp.mem_iff.1 hs)) (akI (ake M5 l)) (by simp);exact⟨h1,λy=>by rw[Fl,h2,Jr,Bool.false_or,adt hp]⟩
theorem aiP{l:List aK}(h:∀s∈l,F1 s):(rW tB l).foldl pc []=Fl l:=by have hp:=Vy M5 l;obtain⟨h1,h2⟩:=Pn (rW tB l) [] ahC (λ s hs=>h s (hp.mem_iff.1 hs)) (akI (aaV M5 l)) (by simp);have⟨h3,h4⟩:=ZA h;exact VU h1 h3 λy=>by rw[h2,Jr,Bool.false_or,adt hp,h4]
theorem adv l:(Fl l).length<=l.length:=by
 have:∀(ys out:List aK),(ys.foldl pc out).length<=out.length+ys.length:=by
  intro ys
  induction ys with
  |nil=>intro out;simp
  |cons y ys ih=>
   intro out;simp;have:=ih (pc out y);have:=VQ out y;omega
 have h:=this (kN tB l) [];rw[eO]at h;simpa[Fl]using h
abbrev eo(r:au):Bool:=decide (0<=r.x0)&&(decide (r.x0<r.x1)&&(decide (r.x1<=1048576)&&(decide (0<=r.y0)&&(decide (r.y0<r.y1)&&decide (r.y1<=1048576)))))
theorem Tr(a b:Bool):(bif a then some b else some false)=some (a&&b):=by cases a<;>rfl
theorem jK(r:au):oP r=some (eo r):=by simp[oP,Tr]
def kZ(l:List au)(x:Int):List aK:=(l.filter λr=>decide (r.x0<=x)&&decide (x<r.x1)).map λr=>⟨r.y0,r.y1⟩
def cZ(l:List au)(x:Int):List aK:=Fl (kZ l x)
theorem HZ l x:(kZ l x).length<=l.length:=by simp[kZ];exact length_filter_le _ _
theorem yK l x:(cZ l x).length<=l.length:=
 Nat.le_trans (adv _) (HZ l x)
theorem an1{r:au}(h:eo r=true):r.y0<r.y1:=by simp at h;omega
theorem VW{l:List au}(h:∀r∈l,eo r=true) x:∀s∈kZ l x,F1 s:=by intro s hs;simp[kZ]at hs;obtain⟨r,⟨hr,_⟩,rfl⟩:=hs;exact an1 (h r hr)
theorem Po{l:List au}{x:Int}(hl:l.length<1099511627776){n:Nat}(hn:l.length<n):iter (tH l x) n (0,[])=some (kZ l x):=by
 have:=gG (l:=l) (step:=tH l x) (λ i s=>(i,s)) (λ r s=>bif decide (r.x0<=x)&&decide (x<r.x1)then s++[⟨r.y0,r.y1⟩]else s) (λ s=>s) (λ i s=>s.length<=i)
  (λ i hi s hs=>?_) (λ s hs=>by simp[tH]) n hn [] (ay _)
 rw[lp]at this;rw[this];congr 1;have gen:∀ys s,ys.foldl (λ s r=>bif decide (r.x0<=x)&&decide (x<r.x1)then s++[⟨r.y0,r.y1⟩]else s) s=s++kZ ys x:=by
  intro ys
  induction ys with
  |nil=>intro s;simp[kZ]
  |cons y ys ih=>
   intro s;simp[ih];cases h:(decide (y.x0<=x)&&decide (x<y.x1))with
   |true|false=>simp[kZ,h]
 simpa using gen l [];have hi':decide ((i:Int)<l.length)=true:=by simpa using hi
 have ap:bL s.length s.length (sub ([(aK.mk l[i].y0 l[i].y1)]:List aK) 0 1).length 1 16=true:=eX (n:=1) (by omega) (by simp[maxLen];omega);simp only[tH,hi',aj,bG hi,ai,Tr];cases h:(decide (l[i].x0<=x)&&decide (x<l[i].x1))with
 |true=>
  simp only[aj,ap,gJ,aN,ai];refine⟨?_,by simp;omega⟩;rw[aQ (by omega)];rfl
 |false=>
  simp only[ax,aN,aj,ai];exact⟨by rw[aQ (by omega)],by omega⟩
theorem Pp(w1 r2:List aK)(hw:w1.length=r2.length)(hl:r2.length<1099511627776)(hn:r2.length<n):iter (tJ w1 r2) n (0,[])=some (r2.foldl pc []):=by
 have:=gG (l:=r2) (step:=tJ w1 r2) (λ i s=>(i,s)) (λ r s=>pc s r) (λ s=>s) (λ i s=>s.length<=i)
  (λ i hi s hs=>?_) (λ s hs=>by simp[tJ,hw]) n hn [] (ay _)
 rw[lp]at this;exact this;refine⟨?_,by have:=VQ s r2[i];omega⟩;have hi':decide ((i:Int)<(w1.length:Nat))=true:=by simp;omega
 have ib:cx i w1.length=true:=aW (by omega);have ap:bL s.length s.length (sub ([r2[i]]:List aK) 0 1).length 1 16=true:=eX (n:=1) (by omega) (by simp[maxLen];omega);simp only[tJ,hi',aj,ib,bI hi,ai];rcases List.eq_nil_or_concat s with rfl|⟨s0,q,Is⟩;have d0:decide ((([]:List aK).length:Nat)>0)=false:=by simp
 simp;rw[aQ (by omega)];rfl;rw[List.concat_eq_append]at Is;subst Is;have d0:decide (((((s0++[q]).length:Nat):Int))>0)=true:=by simp<;>omega
 have B3:(s0++[q]).length=s0.length+1:=by simp
 have wp:i64.wrap (((s0++[q]).length:Nat)-1)=(s0.length:Nat):=by rw[ni (by simp) (by omega),B3];rfl
 have VV:cx (s0.length:Nat) (s0++[q]).length=true:=aW (by omega);have g:b7 (s0++[q]) ((0:Nat)+(s0.length:Nat))=some q:=by rw[oN];simp
 have z:(((0:Nat):Int)+(s0.length:Nat)).toNat=s0.length:=by simp
 have st:(s0++[q]).set s0.length (aK.mk q.from_ (max q.to r2[i].to))=s0++[⟨q.from_,max q.to r2[i].to⟩]:=by simp
 have m:pc (s0++[q]) r2[i]=bif decide (r2[i].from_<=q.to)then s0++[⟨q.from_,max q.to r2[i].to⟩]else s0++[q]++[r2[i]]:=by simp[pc]
 simp only[d0,aj,wp,VV,g,ai,m,z,st];cases decide (r2[i].from_<=q.to)with
 |true=>
  have e:be (s0++[q]).length (s0++[(⟨q.from_,max q.to r2[i].to⟩:aK)]).length=true:=by simp
  simp only[aj,e,ai,aN];rw[aQ (by omega)]
 |false=>
  simp only[ax,ap,aj,gJ,aN,ai];rw[aQ (by omega)];rfl
theorem aa9{l:List au}{x:Int}(hv:∀r∈l,eo r=true)(hl:l.length<1099511627776)(hn:l.length<n):Jk n l x=some (cZ l x):=by have h1:=HZ l x;have h2:(rW tB (kZ l x)).length=(kZ l x).length:=D8 M5 _;unfold Jk;simp[Po (x:=x) (l:=l) (by omega) (n:=n) (by omega)];rw[JB (λ a b=>if a.from_<b.from_ then -1 else if b.from_<a.from_ then 1 else 0) (λ a b=>by show wZ a b=_;unfold wZ;rw[jf];rfl) (λ a b=>by by_cases h1:a.from_<b.from_;simp[h1];by_cases h2:b.from_<a.from_<;>simp[h1,h2]) (by omega) (by omega)];simp;rw[Pp _ _ h2.symm (by omega) (by omega)];simp;rw[aiP (VW hv x)];rfl
def iG(l:List au):List Int:=Hh (l.flatMap λr=>[r.x0,r.x1])
def jL{α:Type}(f:Int->Int->α):List Int->List α
 |a::b::l=>f a b::jL f (b::l)
 |_=>[]
def bf(l:List au):List bQ:=jL (λ a b=>⟨a,b,cZ l a⟩) (iG l)
theorem rP{α:Type}(f:Int->Int->α):∀l,(jL f l).length=l.length-1/\∀i (h:i+1<l.length) (h':i<(jL f l).length),(jL f l)[i]=f l[i] l[i+1]
 |[]|[a]=>⟨rfl,λi h=>by simp at h⟩
 |a::b::l=>by
  have⟨h1,h2⟩:=rP f (b::l);refine⟨by simp only[jL,fU,h1];simp,λi h h'=>?_⟩;cases i with
  |zero=>rfl
  |succ i=>
   simp;exact h2 i (by simpa using h) _
theorem wo(l:List au):(l.flatMap λr=>[r.x0,r.x1]).length=2*l.length:=by
 induction l with
 |nil=>rfl
 |cons x l ih=>simp[ih];omega
theorem rE l:(iX l).length<=l.length:=by
 match l with
 |[]|[x]=>simp[iX]
 |x::y::l=>
  have:=rE (y::l);simp[iX];cases x==y<;>simp at* <;>omega
theorem Ko l:(iG l).length<=2*l.length:=by have h:=rE (kN (λ a b=>decide (a<b)) (l.flatMap λr=>[r.x0,r.x1]));rw[eO,wo]at h;exact h
theorem Pq{l:List au}(hl:l.length<10995116277)(hn:l.length<n):iter (tK l) n (0,[])=some (l.flatMap λr=>[r.x0,r.x1]):=by
 have:=gG (l:=l) (step:=tK l) (λ i s=>(i,s)) (λ r s=>s++[r.x0,r.x1]) (λ s=>s) (λ i s=>s.length<=2*i)
  (λ i hi s hs=>?_) (λ s hs=>by simp[tK]) n hn [] (ay _)
 rw[lp]at this;rw[this];have gen:∀(ys:List au) s,ys.foldl (λ s r=>s++[r.x0,r.x1]) s=s++ys.flatMap λr=>[r.x0,r.x1]:=by
  intro ys
  induction ys with
  |nil=>intro s;simp
  |cons y ys ih=>intro s;simp[ih]
 congr 1;simpa using gen l [];have hi':decide ((i:Int)<(l.length:Nat))=true:=by simpa using hi
 have ap:bL s.length s.length (sub ([l[i].x0,l[i].x1]:List Int) 0 2).length 2 8=true:=eX (n:=2) (by omega) (by simp[maxLen];omega);simp only[tK,hi',aj,aW hi,bI hi,ai,ap,gJ,aN];refine⟨?_,by simp;omega⟩;rw[aQ (by omega)];rfl
theorem xC{ls:List (List au)}(hv:∀r∈ls.flatten,eo r=true)(hl:ls.flatten.length<10995116277)(hls:ls.length<1099511627776)(hn:2*ls.flatten.length<n)(hn2:ls.length<n):oD n ls=some (bf ls.flatten):=by
 unfold oD;rw[M4 (by omega) hls hn2];generalize ls.flatten=l at*;have he:=Ko l;simp[Pq (l:=l) (n:=n) (by omega) (by omega)];rw[pO (by rw[wo];omega) (by rw[wo];omega)];simp only[ai,eO,aN,aj];rw[ug (by rw[eO,wo];omega) (by rw[eO,wo];omega)];simp only[ai];have hE:iX (kN ov (l.flatMap λr=>[r.x0,r.x1]))=iG l:=rfl;rw[hE];obtain⟨p1,p2⟩:=rP (λ a b=>(⟨a,b,cZ l a⟩:bQ)) (iG l);have key:iter (tL n l ((),iG l)) n (1,[])=some (bf l):=by
  have:=mW (step:=tL n l ((),iG l)) (λ i=>((i+1:Nat),(bf l).take i)) (bf l).length (bf l) (λ i hi=>?_) ?_ n (by unfold bf;omega);simpa using this;have hi2:i+1<(iG l).length:=by unfold bf at hi;omega
  have d:decide (((i+1:Nat):Int)<((iG l).length:Nat))=true:=by simp;omega
  have wp:i64.wrap ((i+1:Nat)-1)=(i:Nat):=by rw[ni (by omega) (by omega)];rfl
  have ap:bL ((bf l).take i).length ((bf l).take i).length (sub ([(bQ.mk ((iG l)[i]'(by omega)) (iG l)[i+1] (cZ l ((iG l)[i]'(by omega))))]:List bQ) 0 1).length 1 40=true:=by refine eX (n:=1) ?_ ?_;rw[length_take];unfold bf;omega;rw[length_take];unfold bf;simp[maxLen];omega
  have tk:(bf l).take (i+1)=(bf l).take i++[⟨(iG l)[i]'(by omega),(iG l)[i+1],cZ l ((iG l)[i]'(by omega))⟩]:=by rw[kD hi];congr 2;exact p2 i hi2 hi
  simp only[tL,d,aj,wp,aW (show i<(iG l).length by omega),bI (show i<(iG l).length by omega),ai,aW hi2,bI hi2,jh,aN,aa9 (l:=l) (n:=n) hv (by omega) (by omega),ap,gJ];rw[aQ (by omega),tk];rfl;have d:decide ((((bf l).length+1:Nat):Int)<((iG l).length:Nat))=false:=by unfold bf;simp;omega
  simp only[tL,d,ax,List.take_length,aN,aj]
 rw[key];simp
def Ey(x0 x1:Int)(c:List aK):List au:=c.map λq=>⟨x0,q.from_,x1,q.to⟩
def Fk(x0 x1:Int)(c:List aK):List bQ->List au
 |[]=>Ey x0 x1 c
 |s::l=>if s.column=c then Fk x0 s.x1 c l else Ey x0 x1 c++Fk s.x0 s.x1 s.column l
def nT:List bQ->List au
 |[]=>[]
 |s::l=>Fk s.x0 s.x1 s.column l
theorem ZB x0 c:∀(l:List bQ) x1 (k:Nat) (hk:k<=l.length),(∀ j (hj:j<k),(l[j]'(by omega)).column=c)->(∀ h:k<l.length,l[k].column≠c)->
 Fk x0 x1 c l=Ey x0 (if h:0<k then(l[k-1]'(by omega)).x1 else x1) c++nT (l.drop k)
 |l,x1,0,_,_,h2=>by
  cases l with
  |nil=>simp[Fk,nT]
  |cons s l=>
   have:=h2 (by simp);simp at this;simp[Fk,nT,this]
 |[],x1,k+1,hk,_,_=>by simp at hk
 |s::l,x1,k+1,hk,h1,h2=>by
  have e0:=h1 0 (by omega);simp at e0;simp[Fk,e0];rw[ZB x0 c l s.x1 k (by simpa using hk) (λ j hj=>by have:=h1 (j+1) (by omega);simpa using this) (λ h=>by have:=h2 (by simpa using h);simpa using this)];simp;congr 2;by_cases hk0:0<k;simp[hk0];obtain⟨m,rfl⟩:∃m,k=m+1:=⟨k-1,by omega⟩;simp;have:k=0:=by omega
  subst this;simp
theorem RI{l:List bQ}{i k:Nat}(hi:i<l.length)(hk1:0<k)(hk:k<=l.length)(hl:l.length<10995116277)(x3:bQ) out (ho:out.length<1099511627776) (hc:x3.column.length<1099511627776) (hn:x3.column.length<n):
 iter (vV l i k x3) n (0,out)=some (out++Ey l[i].x0 (l[k-1]'(by omega)).x1 x3.column):=by
 have:=gG (l:=x3.column) (step:=vV l i k x3) (λ j s=>(j,s)) (λ q s=>s++[⟨l[i].x0,q.from_,(l[k-1]'(by omega)).x1,q.to⟩]) (λ s=>s) (λ j s=>s.length<=out.length+j)
  (λ j hj s hs=>?_) (λ s hs=>by simp[vV]) n hn out (ay _)
 rw[lp]at this;rw[this];have gen:∀ys s,ys.foldl (λ s q=>s++[⟨l[i].x0,q.from_,(l[k-1]'(by omega)).x1,q.to⟩]) s=s++Ey l[i].x0 (l[k-1]'(by omega)).x1 ys:=by
  intro ys
  induction ys with
  |nil=>intro s;simp[Ey]
  |cons y ys ih=>intro s;simp[ih];simp[Ey]
 rw[gen];have hj':decide ((j:Int)<x3.column.length)=true:=by simpa using hj
 have wp:i64.wrap (k-1)=(k-1:Nat):=ni hk1 (by omega);have ap:bL s.length s.length (sub ([(au.mk l[i].x0 (x3.column[j]).from_ (l[k-1]'(by omega)).x1 (x3.column[j]).to)]:List au) 0 1).length 1 32=true:=eX (n:=1) (by omega) (by simp[maxLen];omega);simp only[vV,hj',aj,bG hj,bG hi,wp,bG (show k-1<l.length by omega),ai,ap,gJ,aN];refine⟨?_,by simp;omega⟩;rw[aQ (by omega)];rfl
theorem Ri{l:List bQ}{b:Nat}(hb:b<=100000)(hl:l.length<=100000)(hc:∀s∈l,s.column.length<=b)(hn:b<n)(hn2:l.length<n):Ht n l=some (nT l):=by
 unfold Ht;simp only[length_nil,aN,aj];have main:∀(m i:Nat)(out:List au)(k:Nat),i+m=l.length->m<k->out.length<=i*b->iter (vW n l) k ((i:Int),out)=some (out++nT (l.drop i)):=by
  intro m
  induction m using Nat.strongRecOn with
  |ind m ih=>
   intro i out k him hk ho;obtain⟨k,rfl⟩:∃j,k=j+1:=⟨k-1,by omega⟩;by_cases hm:m=0;subst hm;have:i=l.length:=(by omega);subst this;refine cK ?_;simp[vW,nT];have hi:i<l.length:=(by omega);have di:decide ((i:Int)<(l.length:Int))=true:=(by simpa using hi);obtain⟨q,hq1,hq2,hq3,hq4⟩:∃q,i<q/\q<=l.length/\(∀ j,i<j->j<q->∀h:j<l.length,l[j].column=l[i].column)/\(∀ h:q<l.length,l[q].column≠l[i].column):=(by rcases Kl (λ j=>if h:j<l.length then decide (l[j].column≠l[i].column)else false) (i+1) l.length with ⟨q,h1,h2,h3,h4⟩|h;simp[h2]at h3;refine⟨q,by omega,by omega,λj hj1 hj2 hj=>?_,λ_=>h3⟩;have:=h4 j (by omega) hj2;simp[hj,Decidable.not_not]at this;exact this;refine⟨l.length,hi,ay _,λj hj1 hj2 hj=>?_,λh=>by omega⟩;have:=h j (by omega) hj;simp[hj,dite_true,dN,ne_eq,Decidable.not_not]at this;exact this);have cl:∀j (hj:j<l.length),l[j].column.length<=b:=λj hj=>hc _ (getElem_mem hj);have r2:iter (rZ n l (i:Int)) n (i64.wrap ((i:Int)+1))=some (q:Int):=(by rw[aQ (by omega)];have:=mW (step:=rZ n l (i:Int)) (λ j=>((i+1+j:Nat):Int)) (q-(i+1)) q (λ j hj=>?_) ?_ n (by omega);simpa using this;have hjl:i+1+j<l.length:=(by omega);have dj:decide (((i+1+j:Nat):Int)<l.length)=true:=(by simp;omega);have hcc:=cl (i+1+j) hjl;simp only[rZ,dj,aj,bG hjl,bG hi,ai];rw[Cs (by omega) (by omega),hq3 (i+1+j) (by omega) (by omega) hjl];simp only[decide_true,ai,aj];rw[aQ (by omega)];rfl;rw[show i+1+(q-(i+1))=q by omega];by_cases zp:q<l.length;have dj:decide ((q:Nat)<l.length)=true:=(by simpa using zp);have hcc:=cl q zp;simp[rZ,dj,aj,bG zp,bG hi,ai];rw[Cs (by omega) (by omega)];simp[hq4 zp];have dj:decide ((q:Int)<l.length)=false:=(by simp;omega);simp only[rZ,dj,ax,ai]);have ob:i*b<=100000*100000:=Nat.mul_le_mul (by omega) hb;have hci:=cl i hi;have r3:=RI (n:=n) hi (show 0<q by omega) hq2 (by omega) l[i] out (by omega) (by omega) (by omega);have step:vW n l (i,out)=some (.inl (q,out++Ey l[i].x0 (l[q-1]'(by omega)).x1 l[i].column)):=(by simp only[vW,di,aj,r2,bG hi,ai,aN,r3]);rw[dL step,ih (l.length-q) (by omega) q _ k (by omega) (by omega) (by rw[fG,Ey,length_map];have:(i+1)*b<=q*b:=Nat.mul_le_mul_right _ (by omega);rw[Nat.add_mul]at this;omega)];rw[aT];congr 2
   conv=>rhs;rw[List.drop_eq_getElem_cons hi]
   simp[nT];rw[ZB l[i].x0 l[i].column (l.drop (i+1)) l[i].x1 (q-(i+1)) (by rw[length_drop];omega) (λ j hj=>by rw[getElem_drop];exact hq3 _ (by omega) (by omega) (by omega)) (λ h=>by rw[length_drop]at h;rw[getElem_drop];have:=hq4 (by omega);have hqq:i+1+(q-(i+1))=q:=(by omega);simp[hqq];exact this)];rw[List.drop_drop,show i+1+(q-(i+1))=q by omega];congr 2;by_cases h0:0<q-(i+1);simp[h0,dite_true,getElem_drop];congr 2;omega;simp[h0,dite_false];have:q-1=i:=(by omega);congr 2
 have:=main l.length 0 [] n (by omega) (by omega) (by simp);simp[Int.natCast_zero,fP,List.drop_zero]at this;rw[this];simp
def rI(l:List au):List au×Int:=
 if l.all eo then(if l.length>400 then([],6)else if (nT (bf l)).length>200 then([],6)else(nT (bf l),0))else([],1)
def cL(l:List au):Bool:=decide ((rI l).2=0)&&decide ((rI l).1=l)
theorem adw{l:List au}{s:bQ}(h:s∈bf l):s.column.length<=l.length:=by obtain⟨i,hi,rfl⟩:=List.getElem_of_mem h;obtain⟨p1,p2⟩:=rP (λ a b=>(⟨a,b,cZ l a⟩:bQ)) (iG l);have:(bf l)[i]=⟨(iG l)[i]'(by unfold bf at hi;omega),(iG l)[i+1]'(by unfold bf at hi;omega),cZ l ((iG l)[i]'(by unfold bf at hi;omega))⟩:=p2 i (by unfold bf at hi;omega) hi;rw[this];exact yK l _
theorem uh l:(bf l).length<=2*l.length:=by obtain⟨p1,_⟩:=rP (λ a b=>(⟨a,b,cZ l a⟩:bQ)) (iG l);have:=Ko l;unfold bf;omega
theorem akJ{l:List au}(hl:l.length<1099511627776)(hl2:l.length<n)(hn:1000<=n):RE n l=some (rI l):=by
 unfold RE;have h1:=rV (l:=l) (step:=MQ l) (λ i=>i) (λ r=>!eo r) () (λ _=>([],1)) (λ i hi=>?_) ?_ n (by omega);rw[lp]at h1;rw[h1];have h2:=sZ (λ r=>!eo r) l;cases hf:oO (λ r=>!eo r) l with
 |some i=>
  rw[hf]at h2;have:l.all eo=false:=by rw[<- Bool.not_eq_true,all_eq_true];intro hall;have h3:=h2.symm;simp only[Option.isSome_some,any_eq_true]at h3;obtain⟨x,hx,hx2⟩:=h3;rw[hall x hx]at hx2;cases hx2
  simp[rI,this]
 |none=>
  rw[hf]at h2;have:l.all eo=true:=by
   rw[all_eq_true];intro x hx;cases h:eo x with
   |true=>rfl
   |false=>
    have:l.any (λ r=>!eo r)=true:=any_eq_true.2 ⟨x,hx,by rw[h];rfl⟩;rw[this]at h2;cases h2
  have hv:∀r∈l,eo r=true:=all_eq_true.1 this;by_cases Ln:l.length>400;have d4:decide ((l.length:Int)>400)=true:=by simp;omega
  simp[d4,rI,this,aX Ln];have d4:decide ((l.length:Int)>400)=false:=by simp;omega
  have ls:=uh l;simp[d4];have fl:[l].flatten=l:=by simp
  rw[show (sub ([l]:List (List au)) 0 1)=[l]from rfl,xC (ls:=[l]) (by rw[fl];exact hv) (by rw[fl];omega) (by simp) (by rw[fl];omega) (by simp;omega),fl];simp;rw[Ri (b:=400) (by omega) (by omega) (λ s hs=>Nat.le_trans (adw hs) (by omega)) (by omega) (by omega)];simp[yF,rI,this,aV Ln];by_cases q7:(nT (bf l)).length>200;have:decide (((nT (bf l)).length:Int)>200)=true:=by simp;omega
  simp[this,q7];have:decide (((nT (bf l)).length:Int)>200)=false:=by simp;omega
  simp[this,q7]
 have hi':decide ((i:Int)<l.length)=true:=by simpa using hi
 simp only[MQ,hi',aj,bG hi,ai,jK];cases eo l[i]with
 |false=>rfl
 |true=>simp only[Bool.not_true,ax];rw[aQ (by omega)]
 simp[MQ]
theorem l7{l:List au}(hl:l.length<1099511627776)(hl2:l.length<n)(hn:1000<=n):nX n l=some (cL l):=by
 unfold nX cL;rw[akJ hl hl2 hn];simp;by_cases h:(rI l).2=0;have e:((rI l).2==0)=true:=by simp[h]
 have lo:(rI l).1.length<=200:=by unfold rI;split;split;simp;split;simp;simp;omega;simp
 by_cases hlen:(rI l).1.length<n;simp only[h,decide_true,Bool.true_and];rw[Cr (by omega) hlen];rfl;have:(rI l).1.length≠l.length:=by omega
 have hne:(rI l).1≠l:=λe=>this (by rw[e]);simp[h];unfold oF;have hb:(((rI l).1.length:Int) !=l.length)=true:=by simp;omega
 rw[hb];simp[hne];have e:((rI l).2==0)=false:=by simp[h]
 simp[e,h]
theorem Ps{α:Type} c (a b:α):(bif c then some a else some b)=some (bif c then a else b):=by cases c<;>rfl
theorem ZC(i n:Nat):Int.tmod (i:Int) (n:Int)=(i%n:Nat):=by rw[Int.tmod_eq_emod_of_nonneg (by omega)];omega
theorem dV{i n:Nat}(h:i<n):decide ((i:Int)<(n:Nat))=true:=by simpa using h
theorem VX(n:Nat):decide ((n:Int)<(n:Nat))=false:=by simp
theorem ahD{k b:Nat}(h:k*b<=140737488355328)(h2:k<=maxLen):wC k b=true:=by
 have e:((k:Int)).toNat=k:=by omega
 simp only[wC,bg,bE,e];exact⟨⟨by omega,h⟩,h2⟩
def pS(p:List eF)(i:Nat):eF:=p.getD i ⟨0,0⟩
def jw(p:List eF)(i:Nat):jO:=⟨(pS p i).x,(pS p i).y,(pS p ((i+1)%p.length)).x,(pS p ((i+1)%p.length)).y⟩
def gI(p:List eF):List jO:=(List.range p.length).map (jw p)
theorem Tz{p:List eF}{i:Nat}(h:i<p.length):pS p i=p[i]:=by simp[pS,h]
theorem dY p:(gI p).length=p.length:=by simp[gI]
theorem yL{p:List eF}{i:Nat}(h:i<(gI p).length):(gI p)[i]=jw p i:=by simp[gI]
theorem akK{α:Type}(A B:List α)(z x:α):(A++z::B).set A.length x=A++x::B:=by rw[List.set_append_right _ _ (ay _),Nat.sub_self];rfl
theorem Aj{p:List eF}(hl:p.length<=100000)(hn:p.length<n):pI n p=some (gI p):=by
 unfold pI;have mk:wC (p.length:Nat) 32=true:=ahD (by omega) (by show p.length<=2 ^ 63-1;omega);have main:=mW (step:=oU p) (λ i=>((i:Nat),(List.range i).map (jw p)++List.replicate (p.length-i) (jO.mk 0 0 0 0))) p.length (gI p) (λ i hi=>?_) ?_ n hn;have z:((p.length:Int)).toNat=p.length:=by omega
 simp only[List.range_zero,List.map_nil,fP,Nat.sub_zero]at main;have d1:decide ((p.length:Int)<=(p.length:Nat))=true:=by simp
 have d2:decide ((0:Int)<=(p.length:Nat))=true:=by simp
 rw[mk,d1,d2,z];simp;rw[lp]at main;rw[main];simp;have e:sub (gI p) 0 p.length=gI p:=by rw[<- dY p];exact jh _
 rw[e,dY];simp;have nz:((p.length:Int) !=0)=true:=by simp;intro h;rw[h]at hi;simp at hi
 have md:(i+1)%p.length<p.length:=Nat.mod_lt _ (by omega);have w:i64.wrap (i+1)=(i+1:Nat):=aQ (by omega);have z:((p.length:Int)).toNat=p.length:=by omega
 have rp:List.replicate (p.length-i) (jO.mk 0 0 0 0)=jO.mk 0 0 0 0::List.replicate (p.length-(i+1)) (jO.mk 0 0 0 0):=by rw[show p.length-i=(p.length-(i+1))+1 by omega,List.replicate_succ]
 have la:((List.range i).map (jw p)).length=i:=by simp
 have g:b7 ((List.range i).map (jw p)++List.replicate (p.length-i) (jO.mk 0 0 0 0)) ((0:Nat)+(i:Nat))=some (jO.mk 0 0 0 0):=by rw[oN,oL (by omega),la,rp,Nat.sub_self];rfl
 have z2:(((0:Nat):Int)+(i:Nat)).toNat=i:=by omega
 have st:((List.range i).map (jw p)++List.replicate (p.length-i) (jO.mk 0 0 0 0)).set i (jw p i)=(List.range (i+1)).map (jw p)++List.replicate (p.length-(i+1)) (jO.mk 0 0 0 0):=by rw[rp];have:=akK ((List.range i).map (jw p)) (List.replicate (p.length-(i+1)) (jO.mk 0 0 0 0)) (jO.mk 0 0 0 0) (jw p i);rw[la]at this;rw[this,List.range_succ,map_append,aT];rfl
 simp only[oU,dV hi,aj,bG hi,ai,nz,w,ZC,bG md,z,aW hi,g,z2];rw[<- Tz hi,<- Tz md];rw[show jO.mk (pS p i).x (pS p i).y (pS p ((i+1)%p.length)).x (pS p ((i+1)%p.length)).y=jw p i from rfl,st];simp[oU];rfl
def TA(a:eF):Bool:=decide (0<=a.x)&&(decide (a.x<=1048576)&&(decide (0<=a.y)&&decide (a.y<=1048576)))
def ux(s:jO):Bool:=s.lz==s.mL
def S4(s t:jO):Bool:=decide (max (min s.lz s.mL) (min t.lz t.mL)<=min (max s.lz s.mL) (max t.lz t.mL))&&decide (max (min s.pH s.ut) (min t.pH t.ut)<=min (max s.pH s.ut) (max t.pH t.ut))
def TB(a b:eF):Bool:=decide (a.x<b.x) || (a.x==b.x&&decide (a.y<b.y))
theorem M7(a:eF):tO a=some (TA a):=by simp[tO,Tr,TA]
theorem Ct(s t:jO):lV s t=some (S4 s t):=by simp[lV,Tr,S4]
theorem nD(s:jO):ig s=some (ux s):=rfl
theorem VY(a b:Int)(hn:3<=n):uY n [a,b]=some (if a=0 then b else a):=by
 obtain⟨m,rfl⟩:∃m,n=m+3:=⟨n-3,by omega⟩;have w1:i64.wrap (0+1)=1:=by decide
 have w2:i64.wrap (1+1)=2:=by decide
 by_cases ha:a=0;by_cases hb:b=0;subst ha;subst hb;simp;rfl;have hb':(b !=0)=true:=by simpa using hb
 subst ha;simp only[uY,Je,AB,w1];simp[b7,hb'];have ha':(a !=0)=true:=by simpa using ha
 simp[uY,Je,AB];simp[b7,ha',ha]
theorem KP(a b:eF)(hn:3<=n):∃r,q8 n a b=some r/\decide (r>=0)=!TB a b:=by
 unfold q8;rw[jf,jf];simp;rw[show ∀u v:Int,sub [u,v] 0 2=[u,v]from λ_ _=>rfl,VY _ _ hn];refine⟨_,rfl,?_⟩;unfold TB;by_cases h1:a.x<b.x;simp[h1];by_cases h2:b.x<a.x;have h3:¬a.x=b.x:=by omega
 simp[h1,h2,h3];have h3:a.x=b.x:=by omega
 by_cases h4:a.y<b.y;simp[h3,h4];by_cases h5:b.y<a.y<;>simp[h3,h4,h5]
def MD(p:List eF)(i:Nat):Bool:=
 (!TA (pS p i) || ((((jw p i).lz==(jw p i).mL)==((jw p i).pH==(jw p i).ut)) || (ux (jw p i)==ux (jw p ((i+1)%p.length))))) || (decide (0<i)&&!TB (pS p 0) (pS p i))
def RJ(p:List eF)(i k:Nat):Bool:=decide (i+p.length-k>1)&&S4 (jw p i) (jw p k)
def Pv(p:List eF):Bool:=
 decide (4<=p.length)&&(decide (p.length<=60)&&(!((List.range p.length).any (MD p))&&(!((List.range p.length).any λi=>(List.range p.length).any λk=>decide (i+2<=k)&&RJ p i k)&&!ux (jw p 0))))
def afT(l:List au)(x y:Int):Bool:=l.any λr=>(decide (r.x0<=x)&&decide (x<r.x1))&&(decide (r.y0<=y)&&decide (y<r.y1))
theorem adx l (x y:Int):ia (kZ l x) y=afT l x y:=by
 induction l with
 |nil=>rfl
 |cons r l ih=>
  unfold kZ afT at*;rw[List.filter_cons,List.any_cons,<- ih];cases h:(decide (r.x0<=x)&&decide (x<r.x1))with
  |true=>simp;rw[om]
  |false=>simp
theorem M8{l:List au}(h:∀r∈l,eo r=true) x:Can (cZ l x)/\∀y,ia (cZ l x) y=afT l x y:=by have⟨h1,h2⟩:=ZA (VW h x);exact⟨h1,λy=>by rw[cZ,h2,adx]⟩
def VZ:List bQ->Prop
 |[]=>True
 |[s]=>s.x0<s.x1
 |s::t::l=>s.x0<s.x1/\s.x1=t.x0/\VZ (t::l)
def H6:List bQ->Int->List aK
 |[],_=>[]
 |s::l,x=>bif decide (s.x0<=x)&&decide (x<s.x1)then s.column else H6 l x
theorem yM(s:bQ) l x:H6 (s::l) x=bif decide (s.x0<=x)&&decide (x<s.x1)then s.column else H6 l x:=rfl
def Runs:List bQ->Prop
 |[]=>True
 |[s]=>s.x0<s.x1/\s.column≠[]
 |s::t::l=>(s.x0<s.x1/\s.column≠[])/\s.x1<=t.x0/\(s.x1=t.x0->s.column≠t.column)/\Runs (t::l)
theorem al7{s:bQ}{l:List bQ}{x:Int}(h1:s.x0<=x)(h2:x<s.x1):H6 (s::l) x=s.column:=by rw[yM,show(decide (s.x0<=x)&&decide (x<s.x1))=true by simp[h1,h2]];rfl
theorem qi{α:Type}(f:Int->Int->α)(a b:Int) l:jL f (a::b::l)=f a b::jL f (b::l):=rfl
theorem M9(g:Int->List aK):∀es,es.Pairwise (· < ·)->VZ (jL (λ a b=>(⟨a,b,g a⟩:bQ)) es)
 |[],_|[_],_=>trivial
 |[a,b],h=>by have h1:=(pairwise_cons.1 h).1 b (by simp);exact h1
 |a::b::c::l,h=>by have h1:=(pairwise_cons.1 h).1 b (by simp);exact⟨h1,rfl,M9 g (b::c::l) (pairwise_cons.1 h).2⟩
theorem H7(g:Int->List aK) x:∀es,(∀ e∈es,x<e)->H6 (jL (λ a b=>(⟨a,b,g a⟩:bQ)) es) x=[]
 |[],_|[_],_=>rfl
 |a::b::l,h=>by have ha:=h a (by simp);rw[qi,yM,show(decide (a<=x)&&decide (x<b))=false by rw[Bool.and_eq_false_iff,dN];left;omega,ax];exact H7 g x (b::l) λe he=>h e (dZ _ he)
theorem H8(g:Int->List aK) x:∀l a,(a::l).Pairwise (· < ·)->a<=x->
 (∀ e∈a::l,e<=x->(∀ e'∈a::l,e'<=e\/x<e')->g e=g x)->((∀ e∈a::l,e<=x)->g x=[])->H6 (jL (λ a b=>(⟨a,b,g a⟩:bQ)) (a::l)) x=g x
 |[],a,_,hx,_,h2=>(h2 (λ e he=>by have:e=a:=by simpa using he
                                  subst this;exact hx)).symm
 |b::l,a,hp,hx,h1,h2=>by have hab:=(pairwise_cons.1 hp).1 b (by simp);rw[qi,yM];by_cases hb:x<b;rw[show (decide (a<=x)&&decide (x<b))=true by simp[hx,hb],aj];refine h1 a (by simp) hx λe he=>?_;rcases aR.1 he with rfl|he;exact .inl (Int.le_refl _);right;rcases aR.1 he with rfl|he;exact hb;have:=(pairwise_cons.1 (pairwise_cons.1 hp).2).1 e he;omega;rw[show (decide (a<=x)&&decide (x<b))=false by simp[hb],ax];refine H8 g x l b (pairwise_cons.1 hp).2 (by omega) (λ e he hex hc=>h1 e (dZ _ he) hex λe' he'=>?_) λhall=>h2 λe he=>?_;rcases aR.1 he' with rfl|he';left;have:=(pairwise_cons.1 hp).1 e he;omega;exact hc e' he';rcases aR.1 he with rfl|he;exact hx;exact hall e he
theorem ady(g:Int->List aK) es (hp:es.Pairwise (· < ·)) x
 (h1:∀e∈es,e<=x->(∀ e'∈es,e'<=e\/x<e')->g e=g x) (h2:(∀ e∈es,e<=x)->g x=[]) (h3:(∀ e∈es,x<e)->g x=[]):H6 (jL (λ a b=>(⟨a,b,g a⟩:bQ)) es) x=g x:=by
 cases es with
 |nil=>exact(h3 (by simp)).symm
 |cons a l=>
  by_cases hx:a<=x;exact H8 g x l a hp hx h1 h2;have hall:∀e∈a::l,x<e:=by intro e he;rcases aR.1 he with rfl|he;omega;have:=(pairwise_cons.1 hp).1 e he;omega
  rw[H7 g x _ hall,h3 hall]
theorem V3{l:List au}{z:Int}:z∈iG l↔∃r∈l,z=r.x0\/z=r.x1:=by rw[iG,akb,List.mem_flatMap];simp
theorem Kq l:(iG l).Pairwise (· < ·):=ac9 _
theorem X8{l:List au}{es:List Int}(hes:∀r∈l,r.x0∈es/\r.x1∈es){e x:Int}(hex:e<=x)(hc:∀e'∈es,e'<=e\/x<e'):kZ l e=kZ l x:=by unfold kZ;congr 1;refine List.filter_congr λr hr=>?_;have⟨h0,h1⟩:=hes r hr;have:=hc _ h0;have:=hc _ h1;rw[kK,bg,bg,bE,bE,bE,bE];omega
theorem Na{l:List au}{x:Int}(h:∀r∈l,x<r.x0\/r.x1<=x):kZ l x=[]:=by unfold kZ;rw[List.map_eq_nil_iff,List.filter_eq_nil_iff];intro r hr;have:=h r hr;rw[bg,bE,bE];omega
theorem H9 l:VZ (bf l):=M9 _ _ (Kq l)
theorem Kr l x:H6 (bf l) x=cZ l x:=by have hes:∀r∈l,r.x0∈iG l/\r.x1∈iG l:=λr hr=>⟨V3.2 ⟨r,hr,.inl rfl⟩,V3.2 ⟨r,hr,.inr rfl⟩⟩;refine ady (cZ l) (iG l) (Kq l) x (λ e _ hex hc=>?_) (λ hall=>?_) (λ hall=>?_);unfold cZ;rw[X8 hes hex hc];unfold cZ;rw[Na λr hr=>.inr (hall _ (hes r hr).2)];rfl;unfold cZ;rw[Na λr hr=>.inl (hall _ (hes r hr).1)];rfl
theorem aiQ{a:List au}(h:cL a=true):rI a=(a,0):=by unfold cL at h;rw[bg,bE,bE]at h;obtain⟨h1,h2⟩:=h;exact Prod.ext h2 h1
theorem uj{a:List au}(h:cL a=true):(∀ r∈a,eo r=true)/\a.length<=200/\nT (bf a)=a:=by have h:=aiQ h;unfold rI at h;split at h;rename_i hall;split at h;simp at h;split at h;simp at h;rename_i q7;injection h with h _;refine⟨all_eq_true.1 hall,?_,h⟩;rw[<- h];omega;simp at h
def ext(out:List aK)(p:aK):List aK:=
 match out.getLast? with
 |some q=>bif q.to==p.from_ then out.dropLast++[⟨q.from_,p.to⟩]else out++[p]
 |none=>[p]
def kx(a b:List aK):List Int:=Hh ((a++b).flatMap λs=>[s.from_,s.to])
def ul(keep:Bool->Bool->Bool)(a b:List aK):List aK:=
 ((jL aK.mk (kx a b)).filter λp=>keep (ia a p.from_) (ia b p.from_)).foldl ext []
theorem afU o (q p:aK):ext (o++[q]) p=bif q.to==p.from_ then o++[⟨q.from_,p.to⟩]else o++[q]++[p]:=by simp[ext]
def qQ(keep:Bool->Bool->Bool)(a b:List au):List bQ:=
 jL (λ x x'=>(⟨x,x',ul keep (cZ a x) (cZ b x)⟩:bQ)) (iG (a++b))
def um(keep:Bool->Bool->Bool)(a b:List au):List au×Int:=
 if cL a&&cL b then(if (nT (qQ keep a b)).length>200 then([],6)else(nT (qQ keep a b),0))else([],1)
def V4{α:Type}(a0:List α)(a1:Int)(a2:(α×Int×Unit)->Option Int):(Int×Int)->Option ((Int×Int)⊕Int)
 |(v1,v2)=>(bif (decide (v1<v2))then(ck (decide (0<=1)&&decide (1<=IntKind.u64.bits)) ((b7 a0 (i64.wrap ((IntKind.u64.wrap (i64.wrap (v1+v2)))/2 ^ (1:Int).toNat))).bind λx1=>(a2 (x1,a1,())).bind λr1=>(bif (decide (r1<0))then some (.inl ((i64.wrap ((i64.wrap ((IntKind.u64.wrap (i64.wrap (v1+v2)))/2 ^ (1:Int).toNat))+1)),v2))else some (.inl (v1,(i64.wrap ((IntKind.u64.wrap (i64.wrap (v1+v2)))/2 ^ (1:Int).toNat)))))))else some (.inr v1))
theorem adz{α:Type}{l:List α}{key:Int}{φ:(α×Int×Unit)->Option Int}(p:α->Bool)(f:α->Int)(hφ:∀x,φ (x,key,())=some (f x))(hf:∀x,decide (f x<0)=p x)
 (hm:∀i j (hj:j<l.length) (hij:i<j),p l[j]=true->p (l[i]'(by omega))=true) (hl:l.length<1099511627776):
 ∀(m i j n:Nat),j-i<=m->i<=j->j<=l.length->(∀ k (hk:k<i) (hkl:k<l.length),p l[k]=true)->(∀ k (hk:j<=k) (hkl:k<l.length),p l[k]=false)->m<n->
 ∃w:Nat,w<=l.length/\iter (V4 l key φ) n (i,j)=some (w:Int)/\(∀ k (hk:k<w) (hkl:k<l.length),p l[k]=true)/\∀k (hk:w<=k) (hkl:k<l.length),p l[k]=false:=by
 intro m
 induction m with
 |zero=>
  intro i j n hm0 hij hjl h1 h2 hn;obtain⟨n,rfl⟩:∃q,n=q+1:=⟨n-1,by omega⟩;have:i=j:=by omega
  subst this;exact⟨i,hjl,cK (by simp[V4]),h1,h2⟩
 |succ m ih=>
  intro i j n hm0 hij hjl h1 h2 hn;obtain⟨n,rfl⟩:∃q,n=q+1:=⟨n-1,by omega⟩;by_cases hlt:i<j;have c:decide ((i:Int)<(j:Nat))=true:=by simpa using hlt
  have c1:(decide (0<=1)&&decide (1<=IntKind.u64.bits))=true:=rfl;have e:i64.wrap ((IntKind.u64.wrap (i64.wrap ((i:Nat)+(j:Nat))))/2 ^ (1:Int).toNat)=((i+j)/2:Nat):=by
   rw[aoi (by omega),Zp (by omega),show((((i+j:Nat):Int))/2 ^ (1:Int).toNat)=((i+j)/2:Nat)by
    rw[show (1:Int).toNat=1 from rfl,Int.pow_one];omega,Vu (by omega)]
  have hh:(i+j)/2<l.length:=by omega
  cases hp:p l[(i+j)/2]with
  |true=>
   have s:V4 l key φ (i,j)=some (.inl (((i+j)/2+1:Nat),j)):=(by simp only[V4,c,aj,c1,e,bG hh,ai,hφ,hf,hp];rw[aQ (by omega)]);rw[dL s];refine ih _ _ n (by omega) (by omega) hjl (λ k hk hkl=>?_) h2 (by omega);by_cases hk2:k<(i+j)/2;exact hm k _ hh hk2 hp;have:k=(i+j)/2:=(by omega);subst this;exact hp
  |false=>
   have s:V4 l key φ (i,j)=some (.inl (i,((i+j)/2:Nat))):=(by simp only[V4,c,aj,c1,e,bG hh,ai,hφ,hf,hp,ax]);rw[dL s];refine ih _ _ n (by omega) (by omega) (by omega) h1 (λ k hk hkl=>?_) (by omega);by_cases hk2:(i+j)/2<k;cases hpk:p l[k]with
   |false=>rfl
   |true=>have:=hm _ k hkl hk2 hpk;rw[hp]at this;cases this
   have:k=(i+j)/2:=(by omega);subst this;exact hp
  have:i=j:=by omega
  subst this;exact⟨i,hjl,cK (by simp[V4]),h1,h2⟩
theorem akM l key (φ:(bQ×Int×Unit)->Option Int):lT l key φ=V4 l key φ:=by funext ⟨a,b⟩;rfl
theorem al8 l key (φ:(aK×Int×Unit)->Option Int):mR l key φ=V4 l key φ:=by funext ⟨a,b⟩;rfl
theorem V5:∀{l:List bQ},VZ l->l.Pairwise (λ s t=>s.x1<=t.x0)/\∀s∈l,s.x0<s.x1
 |[],_=>⟨List.Pairwise.nil,by simp⟩
 |[s],h=>⟨by simp,λt ht=>by have:t=s:=by simpa using ht
                            subst this;exact h⟩
 |s::t::l,h=>by obtain⟨h1,h2,h3⟩:=h;have⟨p1,p2⟩:=V5 h3;refine⟨?_,?_⟩;rw[pairwise_cons];refine⟨λ u hu=>?_,p1⟩;rcases aR.1 hu with rfl|hu;omega;have:=(pairwise_cons.1 p1).1 u hu;have:=p2 t (by simp);omega;intro u hu;rcases aR.1 hu with rfl|hu;exact h1;exact p2 u hu
theorem KQ{x:Int}:∀{l:List bQ},(∀ s∈l,¬(s.x0<=x/\x<s.x1))->H6 l x=[]
 |[],_=>rfl
 |s::l,h=>by have:=h s (by simp);rw[yM,show(decide (s.x0<=x)&&decide (x<s.x1))=false by rw[Bool.and_eq_false_iff,dN,dN];omega,ax];exact KQ λt ht=>h t (by simp[ht])
theorem ZE{x:Int}:∀{l:List bQ}{w:Nat}(hw:w<l.length),(∀ k (hk:k<w),¬((l[k]'(by omega)).x0<=x/\x<(l[k]'(by omega)).x1))->l[w].x0<=x->x<l[w].x1->H6 l x=l[w].column
 |[],w,hw,_,_,_=>by simp at hw
 |s::l,0,hw,_,h0,h1=>al7 h0 h1
 |s::l,w+1,hw,hk,h0,h1=>by have hs:=hk 0 (by omega);simp at hs;rw[yM,show(decide (s.x0<=x)&&decide (x<s.x1))=false by rw[Bool.and_eq_false_iff,dN,dN];omega,ax];exact ZE (by simpa using hw) (λ k hk'=>by have:=hk (k+1) (by omega);simpa using this) h0 h1
theorem adA{l:List bQ}{x:Int}(h:VZ l)(hl:l.length<1099511627776)(hn:l.length<n):VN n l x=some (H6 l x):=by
 have⟨a1,a2⟩:=V5 h;rw[List.pairwise_iff_getElem]at a1
 have run:=adz (l:=l) (key:=x) (φ:=λ(y1:bQ×Int×Unit)=>vX y1.1 y1.2.1) (λ s=>decide (s.x1<=x)) (λ s=>if s.x1<=x then -1 else 1)
  (λ s=>by show vX s x=_;unfold vX;by_cases c:s.x1<=x<;>simp[c]) (λ s=>by by_cases c:s.x1<=x<;>simp[c])
  (λ i j hj hij hp=>by rw[bE]at hp ⊢;have:=a1 i j (by omega) hj hij;have:=a2 l[j] (getElem_mem _);omega) hl l.length 0 l.length n (by omega) (by omega) (ay _) (λ k hk=>by omega) (λ k hk hkl=>by omega) hn
 obtain⟨w,hw,e,h1,h2⟩:=run;unfold VN jq;rw[akM];have e':iter (V4 l x λ(y1:bQ×Int×Unit)=>vX y1.1 y1.2.1) n (0,(l.length:Nat))=some (w:Int):=e;rw[e'];simp only[ai];have ao:∀b:Int,∃bb,((bif (decide (w<(l.length:Int)))then(b7 l w).bind λx2=>(vX x2 x).bind λr2=>some (w,(r2==b))else some (w,false)):Option (Int×Bool))=some ((w:Int),bb):=by
  intro b;by_cases c:w<l.length;have d:decide ((w:Int)<l.length)=true:=by simpa using c
  rw[d];simp only[aj];rw[bG c,ai];unfold vX;cases decide (l[w].x1<=x)<;>exact⟨_,rfl⟩;have d:decide ((w:Int)<l.length)=false:=by simp;omega
  rw[d];exact⟨_,rfl⟩
 have⟨bb,hbb⟩:=ao 0;rw[hbb,ai];simp only[];by_cases c:w<l.length;have d:decide ((w:Int)<l.length)=true:=by simpa using c
 simp only[d,aj,bG c,ai];have hx1:=h2 w (ay _) c;rw[dN]at hx1;by_cases c2:l[w].x0<=x;simp[c2];rw[ZE c (λ k hk hh=>?_) c2 (by omega)];have:=h1 k hk (by omega);rw[bE]at this;omega;simp[c2];rw[KQ λs hs hh=>?_];obtain⟨k,hk,rfl⟩:=mem_iff_getElem.1 hs;rcases Nat.lt_trichotomy k w with CH|rfl|CH;have:=h1 k CH hk;rw[bE]at this;omega;omega;have:=a1 w k c hk CH;have:=a2 l[w] (getElem_mem _);omega;have d:decide ((w:Int)<l.length)=false:=by simp;omega
 simp only[d,ax,ai];rw[KQ λs hs hh=>?_];obtain⟨k,hk,rfl⟩:=mem_iff_getElem.1 hs;have:=h1 k (by omega) hk;rw[bE]at this;omega
theorem Nb{l:List aK}{y:Int}(h:Can l)(hl:l.length<1099511627776)(hn:l.length<n):Cn n l y=some (ia l y):=by
 obtain⟨a1,a2⟩:=h;rw[List.pairwise_iff_getElem]at a1
 have run:=adz (l:=l) (key:=y) (φ:=λ(y1:aK×Int×Unit)=>lU y1.1 y1.2.1) (λ s=>decide (s.to<=y)) (λ s=>if s.to<=y then -1 else 1)
  (λ s=>by show lU s y=_;unfold lU;by_cases c:s.to<=y<;>simp[c]) (λ s=>by by_cases c:s.to<=y<;>simp[c])
  (λ i j hj hij hp=>by rw[bE]at hp ⊢;have:=a1 i j (by omega) hj hij;have:l[j].from_<l[j].to:=a2 l[j] (getElem_mem _);omega) hl l.length 0 l.length n (by omega) (by omega) (ay _) (λ k hk=>by omega) (λ k hk hkl=>by omega) hn
 obtain⟨w,hw,e,h1,h2⟩:=run;unfold Cn jH;rw[al8];have e':iter (V4 l y λ(y1:aK×Int×Unit)=>lU y1.1 y1.2.1) n (0,(l.length:Nat))=some (w:Int):=e;rw[e'];simp only[ai];have ao:∀b:Int,∃bb,((bif (decide (w<(l.length:Int)))then(b7 l w).bind λx2=>(lU x2 y).bind λr2=>some (w,(r2==b))else some (w,false)):Option (Int×Bool))=some ((w:Int),bb):=by
  intro b;by_cases c:w<l.length;have d:decide ((w:Int)<l.length)=true:=by simpa using c
  rw[d];simp only[aj];rw[bG c,ai];unfold lU;cases decide (l[w].to<=y)<;>exact⟨_,rfl⟩;have d:decide ((w:Int)<l.length)=false:=by simp;omega
  rw[d];exact⟨_,rfl⟩
 have⟨bb,hbb⟩:=ao 0;rw[hbb,ai];simp only[];by_cases c:w<l.length;have d:decide ((w:Int)<l.length)=true:=by simpa using c
 simp only[d,aj,bG c,ai];have hx1:=h2 w (ay _) c;rw[dN]at hx1;congr 1;rw[kK,bE,M6];constructor;exact λhf=>⟨l[w],getElem_mem _,hf,by omega⟩;rintro⟨s,hs,g1,g2⟩;obtain⟨k,hk,rfl⟩:=mem_iff_getElem.1 hs;rcases Nat.lt_trichotomy k w with CH|rfl|CH;have:=h1 k CH hk;rw[bE]at this;omega;exact g1;have:=a1 w k c hk CH;omega;have d:decide ((w:Int)<l.length)=false:=by simp;omega
 simp only[d,ax];congr 1;symm;cases hh:ia l y with
 |false=>rfl
 |true=>
  obtain⟨s,hs,g1,g2⟩:=(M6 _ _).1 hh;obtain⟨k,hk,rfl⟩:=mem_iff_getElem.1 hs;have:=h1 k (by omega) hk;rw[bE]at this;omega
theorem Nc{l:List (List aK)}(hf:l.flatten.length<1099511627776)(hl:l.length<1099511627776)(hn:l.length<n):yG n l=some l.flatten:=Ml (aK.mk 0 0) (b:=16) hf (by omega) hl hn
theorem Nf(l:List aK):(l.flatMap λr=>[r.from_,r.to]).length=2*l.length:=by
 induction l with
 |nil=>rfl
 |cons x l ih=>simp[ih];omega
theorem RL{l:List aK}(hl:l.length<10995116277)(hn:l.length<n):iter (vY l) n (0,[])=some (l.flatMap λr=>[r.from_,r.to]):=by
 have:=gG (l:=l) (step:=vY l) (λ i s=>(i,s)) (λ r s=>s++[r.from_,r.to]) (λ s=>s) (λ i s=>s.length<=2*i)
  (λ i hi s hs=>?_) (λ s hs=>by simp[vY]) n hn [] (ay _)
 rw[lp]at this;rw[this];have gen:∀(ys:List aK) s,ys.foldl (λ s r=>s++[r.from_,r.to]) s=s++ys.flatMap λr=>[r.from_,r.to]:=by
  intro ys
  induction ys with
  |nil=>intro s;simp
  |cons y ys ih=>intro s;simp[ih]
 congr 1;simpa using gen l [];have hi':decide ((i:Int)<(l.length:Nat))=true:=by simpa using hi
 have ap:bL s.length s.length (sub ([l[i].from_,l[i].to]:List Int) 0 2).length 2 8=true:=eX (n:=2) (by omega) (by simp[maxLen];omega);simp only[vY,hi',aj,aW hi,bI hi,ai,ap,gJ,aN];refine⟨?_,by simp;omega⟩;rw[aQ (by omega)];rfl
theorem V6{α β:Type}(p:α->Bool)(f:β->α->β):∀(l:List α)(s:β),(l.filter p).foldl f s=l.foldl (λ s x=>bif p x then f s x else s) s
 |[],s=>rfl
 |x::l,s=>by
  rw[List.filter_cons,foldl_cons];cases h:p x with
  |true|false=>simp;exact V6 p f l _
theorem V7 out (p:aK):(ext out p).length<=out.length+1:=by
 unfold ext;cases out.getLast? with
 |none=>simp
 |some q=>simp;cases q.to==p.from_<;>simp<;>omega
theorem V8(a b:List aK):(kx a b).length<=2*(a.length+b.length):=by have h:=rE (kN (λ a b=>decide (a<b)) ((a++b).flatMap λr=>[r.from_,r.to]));rw[eO,Nf,fG]at h;exact h
theorem X9(keep:Bool->Bool->Bool)(a b:List aK):(ul keep a b).length<=2*(a.length+b.length):=by
 have gen:∀(ys out:List aK),(ys.foldl ext out).length<=out.length+ys.length:=by
  intro ys
  induction ys with
  |nil=>intro out;simp
  |cons y ys ih=>
   intro out;simp;have:=ih (ext out y);have:=V7 out y;omega
 have h:=gen ((jL aK.mk (kx a b)).filter λp=>keep (ia a p.from_) (ia b p.from_)) [];have h2:=length_filter_le (λ p=>keep (ia a p.from_) (ia b p.from_)) (jL aK.mk (kx a b));have h3:=(rP aK.mk (kx a b)).1;have h4:=V8 a b;simp at h;unfold ul;omega
theorem adB{keep:Bool->Bool->Bool}{φ:(Bool×Bool×Unit)->Option Bool}(hφ:∀p q,φ (p,q,())=some (keep p q)){a b:List aK}(ha:Can a)(hb:Can b)(hl:a.length+b.length<1099511627)(hn:2*(a.length+b.length)+2<n):Hu n a b φ=some (ul keep a b):=by
 have fl:[a,b].flatten=a++b:=by simp
 have s2:(sub ([a,b]:List (List aK)) 0 2)=[a,b]:=rfl;have q2:be ([a,b]:List (List aK)).length 2=true:=rfl;have hys:=V8 a b;have hfl:((a++b).flatMap λr=>[r.from_,r.to]).length=2*(a.length+b.length):=by rw[Nf,fG]
 unfold Hu;rw[s2,q2];simp only[aj];rw[Nc (by rw[fl,fG];omega) (by simp) (by simp;omega),fl];simp only[ai,length_nil,aN,aj,RL (l:=a++b) (n:=n) (by rw[fG];omega) (by rw[fG];omega)];rw[pO (by rw[hfl];omega) (by rw[hfl];omega)];simp only[ai,eO,aN,aj];rw[ug (by rw[eO,hfl];omega) (by rw[eO,hfl];omega)];simp only[ai];have hE:iX (kN ov ((a++b).flatMap λr=>[r.from_,r.to]))=kx a b:=rfl;rw[hE];have⟨p1,p2⟩:=rP aK.mk (kx a b);have key:iter (vZ n a b φ ((),kx a b)) n ((1:Int),([]:List aK))=some (ul keep a b):=by
  have:=gG (l:=jL aK.mk (kx a b)) (step:=vZ n a b φ ((),kx a b)) (λ i (s:List aK)=>(((i+1:Nat):Int),s)) (λ p s=>bif keep (ia a p.from_) (ia b p.from_)then ext s p else s) (λ s=>s) (λ i s=>s.length<=i)
   (λ i hi s hs=>?_) (λ s hs=>?_) n (by omega) [] (ay _)
  rw[show ((0+1:Nat):Int)=1 from rfl]at this;rw[this,ul,V6];have hi2:i+1<(kx a b).length:=by omega
  have hi1:i<(kx a b).length:=by omega
  have d:decide (((i+1:Nat):Int)<(((kx a b).length:Nat):Int))=true:=by simp;omega
  have wp:i64.wrap ((i+1:Nat)-1)=(i:Nat):=by rw[ni (by omega) (by omega)];rfl
  have pe:(jL aK.mk (kx a b))[i]=aK.mk (kx a b)[i] (kx a b)[i+1]:=p2 i hi2 hi;rw[pe];have lx:=V7 s (aK.mk (kx a b)[i] (kx a b)[i+1]);have ap:bL s.length s.length (sub ([(aK.mk (kx a b)[i] (kx a b)[i+1])]:List aK) 0 1).length 1 16=true:=eX (n:=1) (by omega) (by simp[maxLen];omega);have sb:(sub ([(aK.mk (kx a b)[i] (kx a b)[i+1])]:List aK) 0 1)=[aK.mk (kx a b)[i] (kx a b)[i+1]]:=rfl;refine⟨?_,by cases keep (ia a (kx a b)[i]) (ia b (kx a b)[i])<;>simp<;>omega⟩;simp only[vZ,d,aj,wp,aW hi1,bI hi1,ai,Nb (n:=n) ha (show a.length<1099511627776 by omega) (show a.length<n by omega),Nb (n:=n) hb (show b.length<1099511627776 by omega) (show b.length<n by omega),hφ];cases hk:keep (ia a (kx a b)[i]) (ia b (kx a b)[i])with
  |false=>
   simp only[Bool.not_false,aj,aN,ai,ax];rw[aQ (by omega)]
  |true=>
   simp only[Bool.not_true,ax,aj];rcases List.eq_nil_or_concat s with rfl|⟨s0,q,Is⟩;have d0:decide ((([]:List aK).length:Nat)>0)=false:=(by simp);simp only[d0,ax,ai,aW hi2,bI hi2,aj,ap,gJ,aN];rw[aQ (by omega)];rfl;rw[List.concat_eq_append]at Is;subst Is;have d0:decide (((((s0++[q]).length:Nat):Int))>0)=true:=(by simp<;>omega);have B3:(s0++[q]).length=s0.length+1:=(by simp);have wq:i64.wrap (((s0++[q]).length:Nat)-1)=(s0.length:Nat):=(by rw[ni (by simp) (by omega),B3];rfl);have VV:cx (s0.length:Nat) (s0++[q]).length=true:=aW (by omega);have g:b7 (s0++[q]) ((0:Nat)+(s0.length:Nat))=some q:=(by rw[oN];simp);have z:(((0:Nat):Int)+(s0.length:Nat)).toNat=s0.length:=(by simp);have st:(s0++[q]).set s0.length (aK.mk q.from_ (kx a b)[i+1])=s0++[⟨q.from_,(kx a b)[i+1]⟩]:=(by simp);simp only[d0,aj,wq,VV,g,ai,afU];cases hj:q.to==(kx a b)[i]with
   |true=>
    simp only[aj,aW hi2,bI hi2,ai,z,st];have e:be (s0++[q]).length (s0++[(⟨q.from_,(kx a b)[i+1]⟩:aK)]).length=true:=(by simp);simp only[e,aj,ai,aN];rw[aQ (by omega)]
   |false=>
    rw[sb]at ap;simp only[ax,aW hi2,bI hi2,ai,aj,sb,ap,gJ,aN];rw[aQ (by omega)]
  have d:decide ((((jL aK.mk (kx a b)).length+1:Nat):Int)<((kx a b).length:Nat))=false:=by simp;omega
  simp only[vZ,d,ax,aN,aj]
 rw[key];simp
theorem Cu(keep:Bool->Bool->Bool)(a b:List au):qQ keep a b=(bf (a++b)).map λs=>⟨s.x0,s.x1,ul keep (cZ a s.x0) (cZ b s.x0)⟩:=by
 have gen:∀es:List Int,jL (λ x x'=>(⟨x,x',ul keep (cZ a x) (cZ b x)⟩:bQ)) es=(jL (λ x x'=>(⟨x,x',cZ (a++b) x⟩:bQ)) es).map λs=>⟨s.x0,s.x1,ul keep (cZ a s.x0) (cZ b s.x0)⟩:=by
  intro es
  match es with
  |[]|[_]=>rfl
  |x::y::l=>
   rw[qi,qi,bJ];congr 1;have:∀es:List Int,jL (λ x x'=>(⟨x,x',ul keep (cZ a x) (cZ b x)⟩:bQ)) es=(jL (λ x x'=>(⟨x,x',cZ (a++b) x⟩:bQ)) es).map λs=>⟨s.x0,s.x1,ul keep (cZ a s.x0) (cZ b s.x0)⟩:=by
    intro es
    induction es with
    |nil=>rfl
    |cons x es ih=>
     cases es with
     |nil=>rfl
     |cons y es=>rw[qi,qi,bJ,ih]
   exact this (y::l)
 exact gen (iG (a++b))
theorem Ya{keep:Bool->Bool->Bool}{φ:(Bool×Bool×Unit)->Option Bool}(hφ:∀p q,φ (p,q,())=some (keep p q)){a b:List au}(ha:a.length<1099511627776)(hb:b.length<1099511627776)(hna:a.length<n)(hnb:b.length<n)(hn:1000<=n):Ef n a b φ=some (um keep a b):=by
 unfold Ef um;rw[l7 ha hna hn,ai];cases hra:cL a with
 |false=>rfl
 |true=>
  rw[l7 hb hnb hn];simp;cases hrb:cL b with
  |false=>rfl
  |true=>
   have⟨a1,a2,_⟩:=uj hra;have⟨b1,b2,_⟩:=uj hrb;have fa:[a].flatten=a:=(by simp);have fb:[b].flatten=b:=(by simp);have fab:[a,b].flatten=a++b:=(by simp);have hab:∀r∈a++b,eo r=true:=λr hr=>(by rcases bK.1 hr with hr|hr;exact a1 r hr;exact b1 r hr);have sa:oD n [a]=some (bf a):=by
    have:=xC (n:=n) (ls:=[a]) (by rw[fa];exact a1) (by rw[fa];omega) (by simp) (by rw[fa];omega) (by simp;omega)
    rwa [fa]at this
   have sb:oD n [b]=some (bf b):=by
    have:=xC (n:=n) (ls:=[b]) (by rw[fb];exact b1) (by rw[fb];omega) (by simp) (by rw[fb];omega) (by simp;omega)
    rwa [fb]at this
   have lab:(a++b).length=a.length+b.length:=fG;have sab:oD n [a,b]=some (bf (a++b)):=by
    have:=xC (n:=n) (ls:=[a,b]) (by rw[fab];exact hab) (by rw[fab,lab];omega) (by simp) (by rw[fab,lab];omega) (by simp;omega)
    rwa [fab]at this
   have e1:(sub ([a]:List (List au)) 0 1)=[a]:=rfl;have e2:(sub ([b]:List (List au)) 0 1)=[b]:=rfl;have e3:(sub ([a,b]:List (List au)) 0 2)=[a,b]:=rfl;have q1:be ([a]:List (List au)).length 1=true:=rfl;have q2:be ([b]:List (List au)).length 1=true:=rfl;have q3:be ([a,b]:List (List au)).length 2=true:=rfl;have la:=uh a;have lb:=uh b;have lS:=uh (a++b);rw[lab]at lS;have mc:∀x,(cZ a x).length<=200/\(cZ b x).length<=200:=λx=>⟨Nat.le_trans (yK a x) a2,Nat.le_trans (yK b x) b2⟩;have lm:∀x,(ul keep (cZ a x) (cZ b x)).length<=800:=λx=>(by have:=X9 keep (cZ a x) (cZ b x);have:=mc x;omega);have key:iter (qK n φ (bf a) (bf b) (bf (a++b))) n ((0:Int),bf (a++b))=some (qQ keep a b):=by
    have:=mW (step:=qK n φ (bf a) (bf b) (bf (a++b))) (λ i=>((i:Int),(qQ keep a b).take i++(bf (a++b)).drop i)) (bf (a++b)).length (qQ keep a b) (λ i hi=>?_) ?_ n (by omega);simpa using this;have d:decide ((i:Int)<(((bf (a++b)).length:Nat):Int))=true:=(by simpa using hi);have lc:(qQ keep a b).length=(bf (a++b)).length:=(by rw[Cu,length_map]);have lt:((qQ keep a b).take i).length=i:=(by rw[length_take];omega);have hd:(bf (a++b)).drop i=(bf (a++b))[i]::(bf (a++b)).drop (i+1):=List.drop_eq_getElem_cons hi;have g:b7 ((qQ keep a b).take i++(bf (a++b)).drop i) (((0:Nat):Int)+(i:Nat))=some (bf (a++b))[i]:=(by rw[oN,oL (by omega),lt,hd];simp);have st:∀s:bQ,((qQ keep a b).take i++(bf (a++b)).drop i).set i s=(qQ keep a b).take i++s::(bf (a++b)).drop (i+1):=(by intro s;rw[List.set_append_right _ _ (by omega),lt,hd,Nat.sub_self];rfl);have z:(((0:Nat):Int)+(i:Nat)).toNat=i:=(by simp);have tk:(qQ keep a b).take (i+1)=(qQ keep a b).take i++[⟨(bf (a++b))[i].x0,(bf (a++b))[i].x1,ul keep (cZ a (bf (a++b))[i].x0) (cZ b (bf (a++b))[i].x0)⟩]:=(by rw[kD (by omega)];congr 2;simp[Cu]);have hm:=mc (bf (a++b))[i].x0;have mg:Hu n (cZ a (bf (a++b))[i].x0) (cZ b (bf (a++b))[i].x0) φ=some (ul keep (cZ a (bf (a++b))[i].x0) (cZ b (bf (a++b))[i].x0)):=
     adB hφ (M8 a1 _).1 (M8 b1 _).1 (by omega) (by omega)
    have at1:VN n (bf a) (bf (a++b))[i].x0=some (cZ a (bf (a++b))[i].x0):=(by rw[adA (H9 a) (by omega) (by omega),Kr]);have at2:VN n (bf b) (bf (a++b))[i].x0=some (cZ b (bf (a++b))[i].x0):=(by rw[adA (H9 b) (by omega) (by omega),Kr]);simp only[qK,d,aj,aW hi,g,ai,jh,at1,at2,mg,aN,z,st];rw[aQ (by omega),tk,aT];rfl;have lc:(qQ keep a b).length=(bf (a++b)).length:=(by rw[Cu,length_map]);have d:decide (((bf (a++b)).length:Nat)<((bf (a++b)).length:Nat))=false:=(by simp);simp[qK,d,ax,List.drop_length,List.append_nil];rw[take_of_length_le (by omega)]
   have lc:(qQ keep a b).length=(bf (a++b)).length:=(by rw[Cu,length_map]);have cc:∀s∈qQ keep a b,s.column.length<=800:=(by intro s hs;rw[Cu,mem_map]at hs;obtain⟨t,_,rfl⟩:=hs;exact lm _);have sl:sub (qQ keep a b) 0 (bf (a++b)).length=qQ keep a b:=(by rw[<- lc,jh]);simp[Bool.not_true,ax,e1,e2,e3,q1,q2,q3,aj,sa,sb,sab,ai,jh,aN,key,sl,lc];rw[Ri (b:=800) (by omega) (by omega) cc (by omega) (by omega)];simp[ai,yF,if_true];by_cases q7:(nT (qQ keep a b)).length>200;have:decide (((nT (qQ keep a b)).length:Int)>200)=true:=(by simp;omega);simp[this,aj,ai,q7,if_true];have:decide (((nT (qQ keep a b)).length:Int)>200)=false:=(by simp;omega);simp[this,ax,ai,q7,if_false]
theorem abd{a b:List au}(ha:a.length<1099511627776)(hb:b.length<1099511627776)(hna:a.length<n)(hnb:b.length<n)(hn:1000<=n):Jl n a b=some (um (λ p q=>p&&q) a b):=by unfold Jl;rw[Ya (keep:=λp q=>p&&q) (λ p q=>by show xg p q=_;unfold xg;cases p<;>rfl) ha hb hna hnb hn];rfl
theorem abe{keep:Bool->Bool->Bool}(a b:List au):(um keep a b).1.length<=200:=by unfold um;split;split;simp;show(nT _).length<=200;omega;simp
def mU(r:au):Int:=(r.x1-r.x0)*(r.y1-r.y0)
def KR(l:List au):Int:=(l.map mU).sum
theorem Ak{r:au}(h:eo r=true):0<=mU r/\mU r<=1099511627776:=by simp at h;unfold mU;refine⟨Int.mul_nonneg (by omega) (by omega),?_⟩;have:=Int.mul_le_mul (show r.x1-r.x0<=1048576 by omega) (show r.y1-r.y0<=1048576 by omega) (by omega) (by omega);omega
theorem V9:∀{l:List au},(∀ r∈l,eo r=true)->0<=KR l/\KR l<=1099511627776*l.length
 |[],_=>by simp[KR]
 |r::l,h=>by
  have h1:=Ak (h r List.mem_cons_self);have h2:=V9 (l:=l) λq hq=>h q (dZ _ hq);have e:KR (r::l)=mU r+KR l:=rfl;rw[e,fU]
  push_cast
  omega
theorem Ia{l:List au}{φ:(au×Unit)->Option Bool}(p:au->Bool)(h:∀x∈l,φ (x,())=some (p x))(hl:l.length<1099511627776)(hn:l.length<n):tZ n l φ=some (Az p l):=iT p h hl hn
theorem sF{l:List au}{φ:(au×Unit)->Option Bool}(p:au->Bool)(h:∀x∈l,φ (x,())=some (p x))(hl:l.length<1099511627776)(hn:l.length<n):jv n l φ=some (l.any p):=by unfold jv;rw[Ia p h hl hn,ai,wU]
theorem ZF:∀(l:List Int) x,(l++[x]).sum=l.sum+x
 |[],x=>by simp
 |a::l,x=>by rw[List.cons_append,List.sum_cons,List.sum_cons,ZF l x];omega
theorem ZG{r:au}(h:eo r=true):uV r=some (mU r):=by have hb:=Ak h;unfold uV xU;rw[jK,h];simp;simp at h;unfold mU at*;rw[aO (x:=r.x1-r.x0),aO (x:=r.y1-r.y0),aO (by omega) (by omega)]
theorem Wi{a:List au}(ha:a.length<=900)(hn:1000<=n):MV n a=some (bif cL a then KR a else 0):=by
 unfold MV;rw[l7 (by omega) (by omega) hn];simp;cases hr:cL a with
 |false=>rfl
 |true=>
  have ok:=(uj hr).1;have:=mW (step:=Eg a) (λ i=>(KR (a.take i),(i:Nat))) a.length (KR a) (λ i hi=>?_) ?_ n (by omega);have e:KR (a.take 0)=0:=rfl;rw[e,lp]at this;simp[this];have c:decide ((i:Int)<a.length)=true:=by simpa using hi
  have h1:=V9 (l:=a.take i) λr hr=>ok r (List.mem_of_mem_take hr);rw[length_take]at h1;have h2:=Ak (ok _ (getElem_mem hi));have e:KR (a.take (i+1))=KR (a.take i)+mU a[i]:=by rw[kD hi];unfold KR;rw[map_append];exact ZF _ _
  simp only[Eg,c,aj,bG hi,ai,ZG (ok _ (getElem_mem hi))];rw[aQ (by omega),aO (by omega) (by omega),e];simp[Eg]
theorem Pw{α:Type}(p:α->Bool) l:(match oO p l with|some _=>true|none=>false)=l.any p:=by have:=sZ p l;rw[<- this];cases oO p l<;>rfl
def Ss(p q:au):Bool:=decide (max p.x0 q.x0<min p.x1 q.x1)&&decide (max p.y0 q.y0<min p.y1 q.y1)
def N1(a b:List au):Bool:=a.any λp=>b.any λq=>Ss p q
theorem afV{a b:List au}(ha:a.length<1099511627776)(hb:b.length<1099511627776)(hna:a.length<n)(hnb:b.length<n):Tx n a b=some (N1 a b):=by
 unfold Tx N1;rw[sF (λ p=>b.any λq=>Ss p q) (λ p _=>?_) ha hna];rfl;show En n p b=_;unfold En;rw[sF (λ q=>Ss p q) (λ q _=>?_) hb hnb];rfl;show vD q p=_;unfold vD Ss;have e1:max q.x0 p.x0=max p.x0 q.x0:=by omega
 have e2:min q.x1 p.x1=min p.x1 q.x1:=by omega
 have e3:max q.y0 p.y0=max p.y0 q.y0:=by omega
 have e4:min q.y1 p.y1=min p.y1 q.y1:=by omega
 first
  |(cases decide (max p.x0 q.x0<min p.x1 q.x1)<;>rfl)
  |(rw [e1,e2,e3,e4];cases decide (max p.x0 q.x0<min p.x1 q.x1)<;>rfl)
theorem afW{a b:List au}(hl:a.length<1099511627776)(hn:a.length<n):Tw n a b=some (decide (a=b)):=by unfold Tw;rw[Cr hl hn];rfl
abbrev wv(a b:au):Bool:=decide (a.y0<b.y0)
theorem ahF:Go.Sort.SWO wv where
 irrefl x:=by simp[wv]
 trans x y z h1 h2:=by simp only[wv,bE]at *;omega
 ntrans x y z h1 h2:=by simp only[wv,dN]at *;omega
instance:Inhabited au:=⟨au.mk 0 0 0 0⟩
theorem JC{l:List au}{φ:(au×au×Unit)->Option Int}(f:au->au->Int)(hφ:∀x y,φ (x,y,())=some (f x y))(hf:∀x y,decide (f x y<0)=wv x y)(hl:l.length<1099511627776)(_:l.length<n):uZ n l φ=some (rW wv l):=
 adn f hφ hf ahF hl
structure aol(R:List bQ):Prop where
 runs:Runs R
 len:R.length<=200
 col:∀s∈R,Can s.column/\∀q∈s.column,0<=q.from_/\q.from_<q.to/\q.to<=1048576
 xs:∀s∈R,0<=s.x0/\s.x0<s.x1/\s.x1<=1048576
 z6:(R.flatMap λs=>s.column.map (·.from_)).length<=200
theorem afX(p:Nat->Bool)(N:Nat):(oO p (List.range N)=none->(List.range N).any p=false)/\(∀ i,oO p (List.range N)=some i->(List.range N).any p=true):=by refine⟨λ h=>?_,λi h=>?_⟩;rw[<- sZ,h];rfl;rw[<- sZ,h];rfl
theorem Ib{W O:Type}{step:Int->Option (Int⊕(W⊕O))}(N:Nat)(p:Nat->Bool)(w:W)(o:O)
 (h:∀i,i<N->step i=some (bif p i then .inr (.inr o)else .inl (i+1:Nat)))
 (hend:step N=some (.inr (.inl w))) (n:Nat) (hn:N<n):iter step n 0=some (bif (List.range N).any p then .inr o else .inl w):=by
 have:=rV (l:=List.range N) (step:=step) (λ i=>(i:Nat)) p w (λ _=>o) (λ i hi=>by rw[List.length_range]at hi;rw[List.getElem_range];exact h i hi) (by rw[List.length_range];exact hend) n (by rw[List.length_range];exact hn);rw[lp]at this;rw[this];have⟨r1,r2⟩:=afX p N;cases hf:oO p (List.range N)with
 |none=>rw[r1 hf];rfl
 |some i=>rw[r2 i hf];rfl
theorem Ic{p:List eF}(hl:p.length<=1000)(hn:2000<=n):iter (qb n p (gI p)) n 0=some (bif (List.range p.length).any (MD p)then .inr false else .inl ()):=by
 refine Ib p.length (MD p) () false (λ i hi=>?_) ?_ n (by omega);have nz:((p.length:Int) !=0)=true:=by simp;intro h;rw[h]at hi;simp at hi
 have md:(i+1)%p.length<p.length:=Nat.mod_lt _ (by omega);have w:i64.wrap (i+1)=(i+1:Nat):=aQ (by omega);have g1:b7 (gI p) ((0:Nat)+(i:Nat))=some (jw p i):=by rw[bI (by rw[dY];exact hi),yL]
 have g2:b7 (gI p) ((0:Nat)+((i+1)%p.length:Nat))=some (jw p ((i+1)%p.length)):=by rw[bI (by rw[dY];exact md),yL]
 obtain⟨r,hr1,hr2⟩:=KP (n:=n) (pS p 0) (pS p i) (by omega);have g3:b7 p 0=some (pS p 0):=by rw[alP (by omega),<- Tz]
 have g4:b7 p (i:Nat)=some (pS p i):=by rw[bG hi,<- Tz]
 have dz:decide ((i:Int)>0)=decide (0<i):=by rw[kK];simp
 have pt:eF.mk (jw p i).lz (jw p i).pH=pS p i:=rfl;simp only[qb,dY,dV hi,aj,aW hi,g1,g2,ai,nz,w,ZC,aW md,pt,M7,nD,Ps,g3,g4,hr1,hr2,dz,Option.map_some];unfold MD;generalize TA (pS p i)=b1;generalize (((jw p i).lz==(jw p i).mL)==((jw p i).pH==(jw p i).ut))=b2;generalize (ux (jw p i)==ux (jw p ((i+1)%p.length)))=b3;generalize decide (0<i)=b4;generalize TB (pS p 0) (pS p i)=b5;cases b1<;>cases b2<;>cases b3<;>cases b4<;>cases b5<;>rfl;simp[qb,dY]
theorem Ie{p:List eF}(hl:p.length<=1000)(hn:2000<=n){i:Nat}(hi:i<p.length):
 iter (jd (gI p) (i:Nat)) n ((i+2:Nat))=some (bif (List.range p.length).any λk=>decide (i+2<=k)&&RJ p i k then .inr (.inr (.inr false))else .inl ()):=by
 have st:∀k,k<p.length->jd (gI p) (i:Nat) (k:Nat)=some (bif RJ p i k then .inr (.inr (.inr (.inr false)))else .inl (k+1:Nat)):=by
  intro k hk;have g1:b7 (gI p) ((0:Nat)+(i:Nat))=some (jw p i):=by rw[bI (by rw[dY];exact hi),yL]
  have g2:b7 (gI p) ((0:Nat)+(k:Nat))=some (jw p k):=by rw[bI (by rw[dY];exact hk),yL]
  have w:i64.wrap (i64.wrap ((i:Nat)+(p.length:Nat))-(k:Nat))=(i+p.length-k:Nat):=by rw[aO (x:=(i:Nat)+(p.length:Nat)),aO (by omega) (by omega)];omega
  have dz:decide (((i+p.length-k:Nat):Int)>1)=decide (i+p.length-k>1):=by rw[kK,bE,bE];omega
  simp only[jd,dY,dV hk,aj,aW hi,aW hk,g1,g2,ai,w,dz,Ct,Ps,Option.map_some,aY k];unfold RJ;cases decide (i+p.length-k>1)<;>cases S4 (jw p i) (jw p k)<;>rfl
 have main:∀m k,k+m=p.length->∀f,m<f->iter (jd (gI p) (i:Nat)) f (k:Nat)=some (bif (List.range p.length).any λj=>decide (k<=j)&&RJ p i j then .inr (.inr (.inr false))else .inl ()):=by
  intro m
  induction m with
  |zero=>
   intro k hk f hf;obtain⟨f,rfl⟩:∃g,f=g+1:=⟨f-1,by omega⟩;have:k=p.length:=(by omega);subst this;have e:((List.range p.length).any λj=>decide (p.length<=j)&&RJ p i j)=false:=(by rw[Bool.eq_false_iff];intro h;rw[any_eq_true]at h;obtain⟨j,h1,h2⟩:=h;rw[List.mem_range]at h1;simp at h2;omega);rw[e];refine cK ?_;simp[jd,dY]
  |succ m ih=>
   intro k hk f hf;obtain⟨f,rfl⟩:∃g,f=g+1:=⟨f-1,by omega⟩;have hkl:k<p.length:=(by omega);have h1:=st k hkl;cases hb:RJ p i k with
   |true=>
    rw[hb]at h1;have e:((List.range p.length).any λj=>decide (k<=j)&&RJ p i j)=true:=(by rw[any_eq_true];exact⟨k,List.mem_range.2 hkl,by simp[hb]⟩);rw[e];exact cK h1
   |false=>
    rw[hb]at h1;rw[dL h1,ih (k+1) (by omega) f (by omega)];congr 2;rw[kK,any_eq_true,any_eq_true];constructor;rintro⟨j,j1,j2⟩;simp at j2;exact⟨j,j1,by simp;exact⟨by omega,j2.2⟩⟩;rintro⟨j,j1,j2⟩;simp at j2;refine⟨j,j1,?_⟩;simp;refine⟨?_,j2.2⟩;rcases Nat.lt_or_ge k j with h|h;omega;have:j=k:=(by omega);subst this;rw[hb]at j2;simp at j2
 by_cases h2:i+2<=p.length;exact main (p.length-(i+2)) (i+2) (by omega) n (by omega);obtain⟨n,rfl⟩:∃g,n=g+1:=⟨n-1,by omega⟩;have e:((List.range p.length).any λj=>decide (i+2<=j)&&RJ p i j)=false:=by rw[Bool.eq_false_iff];intro h;rw[any_eq_true]at h;obtain⟨j,h1,h2⟩:=h;rw[List.mem_range]at h1;simp at h2;omega
 rw[e];have d:decide (((i+2:Nat):Int)<(p.length:Nat))=false:=by rw[dN];omega
 refine cK ?_;simp only[jd,dY,d,ax]
theorem Ig{p:List eF}(hl:p.length<=1000)(hn:2000<=n):iter (qc n (gI p)) n 0=some (bif (List.range p.length).any λi=>(List.range p.length).any λk=>decide (i+2<=k)&&RJ p i k then .inr false else .inl ()):=by
 refine Ib p.length _ () false (λ i hi=>?_) ?_ n (by omega);have w2:i64.wrap (i+2)=(i+2:Nat):=by rw[aO (by omega) (by omega)];omega
 simp only[qc,dY,dV hi,aj,w2,Ie hl hn hi,aY i];cases (List.range p.length).any λk=>decide (i+2<=k)&&RJ p i k<;>rfl;simp[qc,dY]
theorem Px p (hn:2000<=n):vz n p=some (Pv p):=by
 unfold vz Pv;by_cases h4:p.length<4;have d1:decide ((p.length:Int)<4)=true:=by simp;omega
 have d2:decide (4<=p.length)=false:=by simp;omega
 rw[d1,d2];rfl;have d1:decide ((p.length:Int)<4)=false:=by simp;omega
 have d2:decide (4<=p.length)=true:=by simp;omega
 by_cases h60:p.length>60;have d3:decide ((p.length:Int)>60)=true:=by simp;omega
 have d4:decide (p.length<=60)=false:=by simp;omega
 rw[d1,d2,d3,d4];rfl;have d3:decide ((p.length:Int)>60)=false:=by simp;omega
 have d4:decide (p.length<=60)=true:=by simp;omega
 have g:b7 (gI p) ((0:Nat)+0)=some (jw p 0):=by have:=bI (l:=gI p) (i:=0) (by rw[dY];omega);rw[yL]at this;exact this
 have i0:cx 0 (gI p).length=true:=by have:=aW (i:=0) (n:=(gI p).length) (by rw[dY];omega);simpa using this
 rw[d1,d2,d3,d4];simp only[ax,ai,Aj (n:=n) (p:=p) (by omega) (by omega),Ic (n:=n) (p:=p) (by omega) hn,Bool.true_and];cases (List.range p.length).any (MD p)with
 |true=>rfl
 |false=>
  simp only[ax,jB,Ig (n:=n) (p:=p) (by omega) hn];cases (List.range p.length).any λi=>(List.range p.length).any λk=>decide (i+2<=k)&&RJ p i k with
  |true=>rfl
  |false=>
   simp only[ax,jB,i0,aj,g,ai,nD];rfl
def AL(p:List eF)(x:Int):List Int:=((gI p).filter λs=>!ux s&&(decide (min s.lz s.mL<=x)&&decide (x<max s.lz s.mL))).map (·.pH)
def E8(x0 x1:Int):List Int->List au
 |a::b::l=>⟨x0,a,x1,b⟩::E8 x0 x1 l
 |_=>[]
def ot(p:List eF):List Int:=Hh (p.map (·.x))
def Wj(p:List eF):List au:=(jL (λ a b=>E8 a b (kN ov (AL p a))) (ot p)).flatten
def xD(p:List eF):List au×Int:=if Pv p=true then(if (Wj p).length>200 then([],6)else(Wj p,0))else([],10)
theorem afY{p:List eF}(h:Pv p=true):4<=p.length/\p.length<=60:=by unfold Pv at h;simp at h;exact⟨h.1,h.2.1⟩
theorem Fx{p:List eF}(hl:p.length<=1000)(hn:2000<=n):iter (lW p) n (0,[])=some (p.map (·.x)):=by
 have:=gG (l:=p) (step:=lW p) (λ i s=>(i,s)) (λ r s=>s++[r.x]) (λ s=>s) (λ i s=>s.length<=i)
  (λ i hi s hs=>?_) (λ s hs=>by simp[lW]) n (by omega) [] (ay _)
 rw[lp]at this;rw[this];have gen:∀(ys:List eF) s,ys.foldl (λ s r=>s++[r.x]) s=s++ys.map (·.x):=by
  intro ys
  induction ys with
  |nil=>intro s;simp
  |cons y ys ih=>intro s;rw[foldl_cons,ih];simp
 congr 1;simpa using gen p [];have ap:bL s.length s.length (sub ([(p[i]).x]:List Int) 0 1).length 1 8=true:=eX (n:=1) (by omega) (by simp[maxLen];omega);simp only[lW,dV hi,aj,bG hi,ai,ap,gJ,aN];refine⟨?_,by simp;omega⟩;rw[aQ (by omega)];rfl
theorem Fy{p:List eF}(hl:p.length<=1000)(hn:2000<=n) es (i:Nat) (hi:i<es.length):iter (lX ((),es) (gI p) (i:Nat)) n (0,[])=some (AL p es[i]):=by
 have:=gG (l:=gI p) (step:=lX ((),es) (gI p) (i:Nat)) (λ i s=>(i,s)) (λ r s=>bif !ux r&&(decide (min r.lz r.mL<=es[i])&&decide (es[i] <max r.lz r.mL))then s++[r.pH]else s) (λ s=>s) (λ i s=>s.length<=i)
  (λ j hj s hs=>?_) (λ s hs=>by simp[lX]) n (by rw[dY];omega) [] (ay _)
 rw[lp]at this;rw[this];have gen:∀(ys:List jO) s,ys.foldl (λ s r=>bif !ux r&&(decide (min r.lz r.mL<=es[i])&&decide (es[i] <max r.lz r.mL))then s++[r.pH]else s) s=s++(ys.filter λs=>!ux s&&(decide (min s.lz s.mL<=es[i])&&decide (es[i] <max s.lz s.mL))).map (·.pH):=by
  intro ys
  induction ys with
  |nil=>intro s;simp
  |cons y ys ih=>
   intro s;rw[foldl_cons,ih,List.filter_cons];cases !ux y&&(decide (min y.lz y.mL<=es[i])&&decide (es[i] <max y.lz y.mL))<;>simp
 congr 1;exact gen (gI p) [];rw[dY]at hj;have g:b7 (gI p) ((0:Nat)+(j:Nat))=some (gI p)[j]:=bI (by rw[dY];exact hj);have ap:bL s.length s.length (sub ([((gI p)[j]'(by rw[dY];exact hj)).pH]:List Int) 0 1).length 1 8=true:=eX (n:=1) (by omega) (by simp[maxLen];omega);generalize hr:(gI p)[j]'(by rw[dY];exact hj)=r at*;simp only[lX,dY,dV hj,aj,aW hj,g,ai,nD,aW hi,bI hi,Ps,ap,gJ,aN,aY j];cases ux r<;>cases decide (min r.lz r.mL<=es[i])<;>cases decide (es[i] <max r.lz r.mL)<;>refine⟨rfl,?_⟩<;>simp<;>omega
theorem ZH(x0 x1:Int):∀l:List Int,(E8 x0 x1 l).length<=l.length
 |[]|[_]=>by simp[E8]
 |a::b::l=>by have:=ZH x0 x1 l;simp[E8];omega
theorem Fz es (i:Nat) (hi:i+1<es.length) (he:es.length<=10000) (w2 r8:List Int) (hw:w2.length=r8.length) (hr:r8.length<=1000) out (ho:out.length<=10000000) (hn:2000<=n):
 iter (jD ((),es) (i:Nat) w2 r8) n (0,out)=some (out++E8 (es[i]'(by omega)) es[i+1] r8):=by
 have main:∀(m k:Nat) out,k+m=r8.length->out.length<=10000000+k->∀f,m<f->iter (jD ((),es) (i:Nat) w2 r8) f ((k:Nat),out)=some (out++E8 (es[i]'(by omega)) es[i+1] (r8.drop k)):=by
  intro m
  induction m using Nat.strongRecOn with
  |ind m ih=>
   intro k out hk hko f hf;obtain⟨f,rfl⟩:∃g,f=g+1:=⟨f-1,by omega⟩;have w1:i64.wrap (k+1)=(k+1:Nat):=aQ (by omega);have w3:i64.wrap (k+2)=(k+2:Nat):=(by rw[aO (by omega) (by omega)];omega);have w4:i64.wrap (i+1)=(i+1:Nat):=aQ (by omega);by_cases h2:k+1<r8.length;have d:decide (((k+1:Nat):Int)<(w2.length:Nat))=true:=(by rw[hw];exact dV h2);have ap:bL out.length out.length (sub ([(au.mk (es[i]'(by omega)) (r8[k]'(by omega)) es[i+1] r8[k+1])]:List au) 0 1).length 1 32=true:=eX (n:=1) (by omega) (by simp[maxLen];omega);have st:jD ((),es) (i:Nat) w2 r8 ((k:Nat),out)=some (.inl ((k+2:Nat),out++[au.mk (es[i]'(by omega)) (r8[k]'(by omega)) es[i+1] r8[k+1]])):=(by simp only[jD,w1,w3,w4,d,aj,aW (show i<es.length by omega),bI (show i<es.length by omega),ai,aW (show k<w2.length by omega),bI (show k<r8.length by omega),aW hi,bI hi,aW (show k+1<w2.length by omega),bI h2,ap,gJ,aN];rfl);have dr:r8.drop k=r8[k]::r8[k+1]::r8.drop (k+2):=(by rw[List.drop_eq_getElem_cons (by omega),List.drop_eq_getElem_cons h2]);rw[dL st,ih (m-2) (by omega) (k+2) _ (by omega) (by rw[fG,List.length_singleton];omega) f (by omega),dr];simp[E8];have d:decide (((k+1:Nat):Int)<(w2.length:Nat))=false:=(by rw[hw,dN];omega);have e:E8 (es[i]'(by omega)) es[i+1] (r8.drop k)=[]:=by
    have hl:(r8.drop k).length<=1:=by rw[length_drop];omega
    match r8.drop k,hl with
    |[],_|[_],_=>rfl
    |_::_::_,h=>simp at h
   rw[e,List.append_nil];refine cK ?_;simp only[jD,w1,d,ax,aN,aj]
 have:=main r8.length 0 out (by omega) (by omega) n (by omega);rw[lp,List.drop_zero]at this;exact this
theorem al9 p:(ot p).length<=p.length:=by have h:=rE (kN ov (p.map (·.x)));rw[eO,length_map]at h;exact h
theorem Wl p x:(AL p x).length<=p.length:=by unfold AL;rw[length_map,<- dY p];exact length_filter_le _ _
theorem Ih{α:Type}(b:Nat):∀l:List (List α),(∀ x∈l,x.length<=b)->l.flatten.length<=l.length*b
 |[],_=>by simp
 |x::l,h=>by have h1:=Ih b l λy hy=>h y (dZ _ hy);have h2:=h x List.mem_cons_self;rw[List.flatten_cons,fG,fU,Nat.add_mul];omega
theorem FB{p:List eF}(hl:p.length<=1000)(hn:2000<=n):
 iter (lY n ((),ot p) (gI p)) n (0,[])=some (Wj p):=by
 have hx:=al9 p;obtain⟨p1,p2⟩:=rP (λ a b=>E8 a b (kN ov (AL p a))) (ot p)
 let C:=jL (λ a b=>E8 a b (kN ov (AL p a))) (ot p)
 have hC:C.length=(ot p).length-1:=p1;have cl:∀c∈C,c.length<=1000:=by intro c hc;obtain⟨i,hi,rfl⟩:=mem_iff_getElem.1 hc;have:=p2 i (by omega) hi;show(C[i]).length<=1000;rw[show C[i]=_ from this];have h1:=ZH (ot p)[i] (ot p)[i+1] (kN ov (AL p (ot p)[i]));rw[eO]at h1;have h2:=Wl p (ot p)[i];omega
 have bl:∀i,((C.take i).flatten).length<=1000*1000:=by
  intro i;have h1:=Ih 1000 (C.take i) λx hx=>cl x (List.mem_of_mem_take hx);have h2:(C.take i).length<=1000:=by rw[length_take];omega
  exact Nat.le_trans h1 (Nat.mul_le_mul_right _ h2)
 have main:=mW (step:=lY n ((),ot p) (gI p)) (λ i=>((i:Nat),(C.take i).flatten)) C.length (Wj p) (λ i hi=>?_) ?_ n (by omega);simpa using main;have hi2:i+1<(ot p).length:=by omega
 have hw:i64.wrap (((ot p).length:Nat)-1)=(C.length:Nat):=by rw[aO (by omega) (by omega)];omega
 have bi:=bl i;have cr:=Wl p (ot p)[i];have e:C.take (i+1)=C.take i++[E8 (ot p)[i] (ot p)[i+1] (kN ov (AL p (ot p)[i]))]:=by rw[kD hi];congr 2;exact p2 i hi2 hi
 simp only[lY,hw,dV hi,aj,length_nil,aN,Fy hl hn (ot p) i (by omega),ai];rw[pO (by omega) (by omega)];simp;rw[Fz (ot p) i hi2 (by omega) (AL p (ot p)[i]) (kN ov (AL p (ot p)[i])) (by rw[eO]) (by rw[eO];omega) _ (by omega) hn];simp[e,aY i];have hw:i64.wrap (((ot p).length:Nat)-1)=((ot p).length:Nat)-1:=aO (by omega) (by omega);have d:decide ((C.length:Int)<((ot p).length:Nat)-1)=false:=by rw[dN];omega
 simp[lY,hw,d];rfl
theorem Ng p (hn:2000<=n):tQ n p=some (xD p):=by
 unfold tQ xD;rw[Px p hn];simp;cases hr:Pv p with
 |false=>rfl
 |true=>
  have⟨_,hl⟩:=afY hr;simp[Fx (n:=n) (p:=p) (by omega) hn];rw[pO (by rw[length_map];omega) (by rw[length_map];omega)];simp[eO];rw[ug (by rw[eO,length_map];omega) (by rw[eO,length_map];omega)];simp[Aj (n:=n) (p:=p) (by omega) (by omega)];have hE:iX (kN ov (p.map (·.x)))=ot p:=rfl;rw[hE,FB (by omega) hn];simp;by_cases q7:(Wj p).length>200;have:decide ((((Wj p).length:Nat):Int)>200)=true:=by simp;omega
  rw[this,aX q7];rfl;have:decide ((((Wj p).length:Nat):Int)>200)=false:=by simp;omega
  rw[this,aV q7];rfl
theorem adD p:(xD p).1.length<=200:=by unfold xD;split;split;simp;simp;omega;simp
def an2(a b:au):Int:=bif(!eo a || !eo b)then -1 else max (max 0 (i64.wrap ((max a.x0 b.x0)-(min a.x1 b.x1)))) (i64.wrap ((max a.y0 b.y0)-(min a.y1 b.y1)))
theorem akN(a b:au):Su a b=some (an2 a b):=by unfold Su an2;rw[jK,jK];simp only[ai];cases eo a<;>cases eo b<;>rfl
def akO:jN:=jN.mk 0 0 [] []
def l8(land:List jN)(id:Int):jN×Bool:=match land.find? λt=>t.id==id with
 |some t=>(t,true)
 |none=>(akO,false)
theorem Wm{α:Type}(p:α->Bool) l:(∃ (i:Nat) (h:i<l.length),oO p l=some i/\l.find? p=some l[i])\/(oO p l=none/\l.find? p=none):=by rcases D6 p l with ⟨i,hi,h1,h2,h3⟩|⟨h1,h2⟩;refine .inl ⟨i,hi,h1,?_⟩;rw[List.find?_eq_some_iff_getElem];exact⟨h2,i,hi,rfl,λj hj=>by simpa using h3 j hj⟩;refine .inr ⟨h1,?_⟩;rw[List.find?_eq_none];intro x hx;rw[h2 x hx];simp
def an3(t:cO)(name:ByteArray):Int:=match t.rows.find? λe=>ByteArray.toList e.name==ByteArray.toList name with
 |some e=>e.n
 |none=>t.sf
theorem Wn{α:Type}(p:α->Bool) l:(∃ (i:Nat) (h:i<l.length),Az p l=i/\l.find? p=some l[i])\/(Az p l=-1/\l.find? p=none):=by rcases Wm p l with ⟨i,hi,h1,h2⟩|⟨h1,h2⟩;exact .inl ⟨i,hi,by simp[Az,h1],h2⟩;exact .inr ⟨by simp[Az,h1],h2⟩
def akP:List ByteArray:=[⟨#[104,111,109,101]⟩,⟨#[115,104,111,112]⟩,⟨#[119,111,114,107]⟩,⟨#[112,97,114,107]⟩,⟨#[112,108,97,110,116]⟩,⟨#[104,97,108,108]⟩]
def nameOf(use:Int):Option ByteArray:=b7 akP use
theorem adE{V O:Type}{step:V->Option (V⊕O)}(R:Nat->V->Prop)(N:Nat)(Q:O->Prop)(h:∀i v,i<N->R i v->∃v',step v=some (.inl v')/\R (i+1) v')(hN:∀v,R N v->∃o,step v=some (.inr o)/\Q o):
 ∀n,N<n->∀v,R 0 v->∃o,iter step n v=some o/\Q o:=by
 have main:∀k i n v,i+k=N->k<n->R i v->∃o,iter step n v=some o/\Q o:=by
  intro k
  induction k with
  |zero=>
   intro i n v hi hn hR;obtain⟨m,rfl⟩:∃m,n=m+1:=⟨n-1,by omega⟩;have:i=N:=(by omega);subst this;have⟨o,h1,h2⟩:=hN v hR;exact⟨o,cK h1,h2⟩
  |succ k ih=>
   intro i n v hi hn hR;obtain⟨m,rfl⟩:∃m,n=m+1:=⟨n-1,by omega⟩;obtain⟨v',h1,h2⟩:=h i v (by omega) hR;obtain⟨o,h3,h4⟩:=ih (i+1) m v' (by omega) (by omega) h2;exact⟨o,by rw[dL h1,h3],h4⟩
 intro n hn v hR;exact main N 0 n v (by omega) hn hR
def AO(z:fJ):List au:=if (xD z.corners).2=0 then(xD z.corners).1 else []
theorem afZ(z:fJ):(AO z).length<=200:=by unfold AO;split;exact adD _;simp
theorem RN(z:fJ)(hn:2000<=n):xh n z=some (AO z):=by
 unfold xh AO;rw[Ng _ hn];simp;by_cases h:(xD z.corners).2=0;have:((xD z.corners).2 !=0)=false:=by simp[h]
 rw[this,aX h];rfl;have:((xD z.corners).2 !=0)=true:=by simp[h]
 rw[this,aV h];rfl
def E9(a b:au):au:=⟨max a.x0 b.x0,max a.y0 b.y0,min a.x1 b.x1,min a.y1 b.y1⟩
theorem Nh(a:au):xU a=some (bif eo a then(a,true)else(⟨0,0,0,0⟩,false)):=by unfold xU;rw[jK];simp[Ps]
theorem yN(a b:au):rY a b=some (bif eo a&&(eo b&&eo (E9 a b))then(E9 a b,true)else(⟨0,0,0,0⟩,false)):=by unfold rY;rw[jK,jK];simp only[ai,Ps];rw[show au.mk (max a.x0 b.x0) (max a.y0 b.y0) (min a.x1 b.x1) (min a.y1 b.y1)=E9 a b from rfl,Nh];simp only[ai];generalize eo (E9 a b)=c;cases eo a<;>cases eo b<;>cases c<;>rfl
def N0(r:au):Int:=i64.wrap (i64.wrap (r.x1-r.x0)*i64.wrap (r.y1-r.y0))
theorem Cv{r:au}(h:eo r=true):uV r=some (N0 r):=by unfold uV;rw[Nh,h];rfl
def Wo(x:au)(n:Int)(y:au):Int:=bif eo x&&(eo y&&eo (E9 x y))then i64.wrap (n+N0 (E9 x y))else n
def Ez(a b:List au):Int:=a.foldl (λ n x=>b.foldl (Wo x) n) 0
theorem ama{α β:Type} c (a:α) (u v:β):(bif c then(a,u)else(a,v)).1=a:=by cases c<;>rfl
theorem Ii b (x:au) (hb:b.length<=1000) (hn:2000<=n) (m u v:Int):∃o,iter (qd n b x) n (m,0,u,v)=some o/\o.1=b.foldl (Wo x) m:=by
 refine adE (λ i (w:Int×Int×Int×Int)=>w.2.1=i/\w.1=(b.take i).foldl (Wo x) m) b.length (λ (o:Int×Int×Int)=>o.1=b.foldl (Wo x) m) (λ i w hi hR=>?_) (λ w hR=>?_) n (by omega) _ ⟨rfl,rfl⟩;obtain⟨w1,w2,w3,w4⟩:=w;obtain⟨h1,h2⟩:=hR;simp at h1 h2;subst h1;have e:(b.take (i+1)).foldl (Wo x) m=Wo x w1 b[i]:=by rw[kD hi,List.foldl_append,<- h2];rfl
 simp only[qd,dV hi,aj,bG hi,ai,yN];have e0:Wo x w1 b[i]=bif eo x&&(eo b[i]&&eo (E9 x b[i]))then i64.wrap (w1+N0 (E9 x b[i]))else w1:=rfl;rw[e0]at e;cases hc:eo x&&(eo b[i]&&eo (E9 x b[i]))with
 |false=>
  rw[hc]at e;simp only[ax,Bool.not_false,aj,ai];exact⟨_,rfl,aQ (by omega),e.symm⟩
 |true=>
  rw[hc]at e;have hcc:eo (E9 x b[i])=true:=by revert hc;generalize eo (E9 x b[i])=c;cases c;cases eo x<;>cases eo b[i]<;>simp;simp
  simp only[aj,Bool.not_true,ax,Cv hcc,ai,jf];rw[show ∀u v:Int,sub [u,v] 0 2=[u,v]from λ_ _=>rfl,VY _ _ (by omega)];simp only[ai,Ps];simp only[show ∀u v:Int,be [u,v].length 2=true from λ_ _=>rfl,aj,ai];refine⟨_,rfl,aY i,?_⟩;rw[e];exact ama _ _ _ _
 obtain⟨w1,w2,w3,w4⟩:=w;obtain⟨h1,h2⟩:=hR;simp only at h1 h2;subst h1;simp only[qd,VX,ax];exact⟨_,rfl,by rw[h2,List.take_length]⟩
theorem Py(a b:List au)(ha:a.length<=1000)(hb:b.length<=1000)(hn:2000<=n):∃q,vB n a b=some (Ez a b,q):=by
 unfold vB;obtain⟨o,h1,h2⟩:=adE (step:=qf n a b) (λ i (w:Int×Int×Int×Int)=>w.2.1=i/\w.1=(a.take i).foldl (λ n x=>b.foldl (Wo x) n) 0) a.length (λ (o:Int×Int×Int)=>o.1=Ez a b) (λ i w hi hR=>by obtain⟨w1,w2,w3,w4⟩:=w;obtain⟨h1,h2⟩:=hR;simp at h1 h2;subst h1;have⟨o,g1,g2⟩:=Ii (n:=n) b a[i] hb hn w1 w3 w4;obtain⟨o1,o2,o3⟩:=o;simp only[qf,dV hi,aj,bG hi,ai,g1];refine⟨_,rfl,aQ (by omega),?_⟩;simp at g2;rw[kD hi,List.foldl_append,<- h2,g2];rfl) (λ w hR=>by obtain⟨w1,w2,w3,w4⟩:=w;obtain⟨h1,h2⟩:=hR;simp only at h1 h2;subst h1;simp only[qf,VX,ax];exact⟨_,rfl,by rw[h2,List.take_length];rfl⟩) n (by omega) (0,0,1048576,0) ⟨rfl,rfl⟩;obtain⟨o1,o2,o3⟩:=o;simp at h2;subst h2;exact⟨_,by rw[h1];rfl⟩
def xE(zs:List fJ)(area:List au):List Int:=bif cL area then zs.map λz=>Ez area (AO z)else []
theorem Pz(p:cB) a (hz:p.zones.length<=100) (ha:a.length<=900) (hn:2000<=n):vC n p a=some (xE p.zones a):=by
 unfold vC xE;rw[l7 (by omega) (by omega) (by omega)];simp;cases cL a with
 |false=>rfl
 |true=>
  have:=gG (l:=p.zones) (step:=qg n p a) (λ i s=>(i,s)) (λ z s=>s++[Ez a (AO z)]) (λ s=>s) (λ i s=>s.length<=i)
   (λ i hi s hs=>?_) (λ s hs=>by simp[qg]) n (by omega) [] (ay _)
  rw[lp]at this;simp only[Bool.not_true,ax,length_nil,aN,aj,this,ai,jh];congr 1;have gen:∀(ys:List fJ) s,ys.foldl (λ s z=>s++[Ez a (AO z)]) s=s++ys.map λz=>Ez a (AO z):=by
   intro ys
   induction ys with
   |nil=>intro s;simp
   |cons y ys ih=>intro s;rw[foldl_cons,ih];simp
  exact gen p.zones [];have cl:=afZ p.zones[i];obtain⟨q,hq⟩:=Py (n:=n) a (AO p.zones[i]) (by omega) (by omega) hn;have ap:bL s.length s.length (sub ([Ez a (AO p.zones[i])]:List Int) 0 1).length 1 8=true:=eX (n:=1) (by omega) (by simp[maxLen];omega);simp only[qg,dV hi,aj,bG hi,ai,RN _ hn,jh,aN,hq,ap,gJ];refine⟨?_,by simp;omega⟩;rw[aQ (by omega)];rfl
theorem Rj zs a:(xE zs a).length<=zs.length:=by unfold xE;cases cL a<;>simp
def wR(zs:List fJ)(l:List Int)(m:Nat):Int:=(List.range m).foldl (λ b i=>if (!((zs.getD i ⟨⟨#[]⟩,false,[]⟩).overlay)&&(decide (l.getD i 0>0)&&(decide (b<0) || decide (l.getD i 0>l.getD b.toNat 0))))=true then i else b) (-1)
def EA(zs:List fJ)(l:List Int)(i:Nat):Bool:=decide (i=wR zs l l.length) || ((zs.getD i ⟨⟨#[]⟩,false,[]⟩).overlay&&decide (l.getD i 0>0))
def GF(zs:List fJ)(area:List au):List ByteArray:=((List.range (xE zs area).length).filter (EA zs (xE zs area))).map λi=>(zs.getD i ⟨⟨#[]⟩,false,[]⟩).name
theorem Rk zs l:∀m,wR zs l m=-1\/∃k:Nat,k<m/\wR zs l m=k
 | 0=>.inl rfl
 |m+1=>by have ih:=Rk zs l m;unfold wR;rw[List.range_succ,List.foldl_append];simp only[foldl_cons,List.foldl_nil];split;exact .inr ⟨m,by omega,rfl⟩;rcases ih with h|⟨k,h1,h2⟩;exact .inl h;exact .inr ⟨k,by omega,h2⟩
theorem Ij{α:Type}{l:List α}{i:Nat}(d:α)(h:i<l.length):l.getD i d=l[i]:=by simp[h]
theorem PD(p:cB) l (hl:l.length<=p.zones.length) (hz:p.zones.length<=100) (hn:2000<=n):iter (qh p l) n ((-1),0)=some (wR p.zones l l.length):=by
 have main:=mW (step:=qh p l) (λ i=>(wR p.zones l i,(i:Nat))) l.length (wR p.zones l l.length) (λ i hi=>?_) (by simp[qh]) n (by omega);exact main;have hz':i<p.zones.length:=by omega
 have e:wR p.zones l (i+1)=if (!(p.zones[i]).overlay&&(decide (l[i]>0)&&(decide (wR p.zones l i<0) || decide (l[i]>l.getD (wR p.zones l i).toNat 0))))=true then(i:Int)else wR p.zones l i:=by
  conv=>lhs;unfold wR
  rw[List.range_succ,List.foldl_append];simp only[foldl_cons,List.foldl_nil,Ij _ hz',Ij _ hi];rfl
 rw[e];rcases Rk p.zones l i with h|⟨k,h1,h2⟩;rw[h];have d:decide (-1<0)=true:=rfl;simp only[qh,dV hi,aj,aW hi,bI hi,ai,bG hz',d,Ps,Bool.true_or,Bool.and_true,aY i];cases (p.zones[i]).overlay<;>cases decide (l[i]>0)<;>rfl;rw[h2];have d:decide ((k:Nat)<0)=false:=by simp
 have hk:k<l.length:=by omega
 simp only[qh,dV hi,aj,aW hi,bI hi,ai,bG hz',d,Ps,Bool.false_or,ax,aW hk,bI hk,Int.toNat_natCast,Ij _ hk,aY i];cases (p.zones[i]).overlay<;>cases decide (l[i]>0)<;>cases decide (l[i]>l[k])<;>rfl
theorem abf(p:cB) a (hz:p.zones.length<=100) (ha:a.length<=900) (hn:2000<=n):Co n p a=some (GF p.zones a):=by
 unfold Co;have sl:=Rj p.zones a;rw[Pz p a hz ha hn];simp;rw[PD p _ sl hz hn];simp;unfold GF;generalize hL:xE p.zones a=l at*
 have:=gG (l:=List.range l.length) (step:=xk p l (wR p.zones l l.length)) (λ i s=>(i,s)) (λ i s=>bif EA p.zones l i then s++[(p.zones.getD i ⟨⟨#[]⟩,false,[]⟩).name]else s) (λ s=>s) (λ i s=>s.length<=i)
  (λ i hi s hs=>?_) (λ s hs=>by rw[List.length_range];simp[xk]) n (by rw[List.length_range];omega) [] (ay _)
 rw[lp]at this;simp[this];congr 1;have gen:∀(ys:List Nat) s,ys.foldl (λ s i=>bif EA p.zones l i then s++[(p.zones.getD i ⟨⟨#[]⟩,false,[]⟩).name]else s) s=s++(ys.filter (EA p.zones l)).map λi=>(p.zones.getD i ⟨⟨#[]⟩,false,[]⟩).name:=by
  intro ys
  induction ys with
  |nil=>intro s;simp
  |cons y ys ih=>
   intro s;rw[foldl_cons,ih,List.filter_cons];cases EA p.zones l y<;>simp
 exact gen (List.range l.length) [];rw[List.length_range]at hi;have hz':i<p.zones.length:=by omega
 rw[List.getElem_range];have ap:bL s.length s.length (sub ([(p.zones[i]).name]:List ByteArray) 0 1).length 1 16=true:=eX (n:=1) (by omega) (by simp[maxLen];omega);have hb:((i:Nat)==wR p.zones l l.length)=decide ((i:Nat)=wR p.zones l l.length):=by rw[kK];simp
 simp only[xk,dV hi,aj,aW hi,bI hi,ai,bG hz',hb,Ps,ap,gJ,aN,EA,Ij _ hz',Ij _ hi,aY i];cases decide ((i:Nat)=wR p.zones l l.length)<;>cases (p.zones[i]).overlay<;>cases decide (l[i]>0)<;>refine⟨rfl,?_⟩<;>simp<;>omega
theorem amb zs a:(GF zs a).length<=zs.length:=by unfold GF;rw[length_map];have h1:=length_filter_le (EA zs (xE zs a)) (List.range (xE zs a).length);rw[List.length_range]at h1;have:=Rj zs a;omega
def fW(a b:ByteArray):Bool:=ByteArray.toList a==ByteArray.toList b
theorem uL{l:List ByteArray}{a:ByteArray}(hl:l.length<1099511627776)(hn:l.length<n):gm n l a=some (l.any (fW a)):=by
 unfold gm;have e:q9 n l a=aaS n (λ x=>ByteArray.toList a==ByteArray.toList x) l:=by kernel_rfl
 rw[e,Q6 hl hn,ai,wU];rfl
theorem qm{l:List ByteArray}{φ:(ByteArray×Unit)->Option Bool}(p:ByteArray->Bool)(h:∀x∈l,φ (x,())=some (p x))(hl:l.length<1099511627776)(hn:l.length<n):gB n l φ=some (l.any p):=by
 unfold gB;have e:qy n l φ=vR n l φ:=by kernel_rfl
 rw[e,iT p h hl hn,ai,wU]
def TD(r:bP)(zs:List ByteArray):Bool:=(decide (r.zones=[]) || r.zones.any λz=>zs.any (fW z))&&!(r.except.any λz=>zs.any (fW z))
theorem PE(r:bP) zs (h1:r.zones.length<=100) (h2:r.except.length<=100) (h3:zs.length<=100) (hn:2000<=n):qL n r zs=some (TD r zs):=by
 have hf:∀x:ByteArray,kH n x zs=some (zs.any (fW x)):=λx=>by unfold kH;rw[uL (by omega) (by omega)];rfl
 unfold qL TD;rw[qm (λ z=>zs.any (fW z)) (λ x _=>hf x) (by omega) (by omega),qm (λ z=>zs.any (fW z)) (λ x _=>hf x) (by omega) (by omega)];simp;have e:((r.zones.length:Int)==0)=decide (r.zones=[]):=by rw[kK,beq_iff_eq,bE];constructor;intro h;exact List.length_eq_zero_iff.1 (by omega);intro h;rw[h];rfl
 rw[e];cases decide (r.zones=[])<;>cases (r.zones.any λz=>zs.any (fW z))<;>cases (r.except.any λz=>zs.any (fW z))<;>rfl
def pQ(zs:List ByteArray)(day:Int)(r:bP):Bool:=decide (r.from_<=day)&&((r.ka==0 || decide (day<r.ka))&&TD r zs)
def PG(rules:List bP)(zs:List ByteArray)(day:Int):List Nat:=(List.range rules.length).filter λi=>(rules[i]?).any (pQ zs day)
abbrev Wp(r:bP):Prop:=r.zones.length<=100/\r.except.length<=100
theorem RO(p:cB) zs day (hr:∀r∈p.rules,Wp r) (hl:p.rules.length<=100) (h3:zs.length<=100) (hn:2000<=n):tT n p zs day=some ((PG p.rules zs day).map λ(i:Nat)=>(i:Int)):=by
 unfold tT PG
 have:=gG (l:=List.range p.rules.length) (step:=rf n p zs day) (λ i s=>(i,s)) (λ i s=>bif(p.rules[i]?).any (pQ zs day)then s++[(i:Int)]else s) (λ s=>s) (λ i s=>s.length<=i)
  (λ i hi s hs=>?_) (λ s hs=>by rw[List.length_range];simp[rf]) n (by rw[List.length_range];omega) [] (ay _)
 rw[lp]at this;simp[this];congr 1;have gen:∀(ys:List Nat) s,ys.foldl (λ s (i:Nat)=>bif(p.rules[i]?).any (pQ zs day)then s++[(i:Int)]else s) s=s++(ys.filter λi=>(p.rules[i]?).any (pQ zs day)).map λ(i:Nat)=>(i:Int):=by
  intro ys
  induction ys with
  |nil=>intro s;simp
  |cons y ys ih=>
   intro s;rw[foldl_cons,ih,List.filter_cons];cases (p.rules[y]?).any (pQ zs day)<;>simp
 exact gen (List.range p.rules.length) [];rw[List.length_range]at hi;rw[List.getElem_range];obtain⟨o1,o2⟩:=hr _ (getElem_mem hi);have ap:bL s.length s.length (sub ([(i:Nat)]:List Int) 0 1).length 1 8=true:=eX (n:=1) (by omega) (by simp[maxLen];omega);have eg:(p.rules[i]?).any (pQ zs day)=pQ zs day p.rules[i]:=by rw[dJ hi];rfl
 rw[eg];simp only[rf,dV hi,aj,bG hi,ai,PE _ zs o1 o2 h3 hn,Ps,ap,gJ,aN,pQ,aY i];cases decide ((p.rules[i]).from_<=day)<;>cases (p.rules[i]).ka==0<;>cases decide (day<(p.rules[i]).ka)<;>cases TD p.rules[i] zs<;>refine⟨rfl,?_⟩<;>simp<;>omega
def Wq(p:d9):Bool:=decide (0<=p.side/\p.side<=3)&&(decide (0<=p.base/\p.base<=4096)&&(decide (0<=p.num/\p.num<=4096)&&decide (1<=p.den/\p.den<=4096)))
theorem akQ(p:d9):Wq p=true↔(0<=p.side/\p.side<=3)/\(0<=p.base/\p.base<=4096)/\(0<=p.num/\p.num<=4096)/\(1<=p.den/\p.den<=4096):=by simp[Wq]
theorem RP(a b c:Int):nR a b c=some (decide (b<=a/\a<=c)):=by
 unfold nR;by_cases h1:b<=a;have d:decide (b<=a)=true:=by simpa using h1
 rw[d,aj];congr 1;rw[kK];simp[h1];have d:decide (b<=a)=false:=by simpa using h1
 rw[d,ax];congr 1;rw[kK];simp[h1]
theorem Ws(p:d9):Ac p=some (Wq p):=by unfold Ac Wq;simp only[RP,ai,Ps];generalize decide (0<=p.side/\p.side<=3)=a;generalize decide (0<=p.base/\p.base<=4096)=b;generalize decide (0<=p.num/\p.num<=4096)=c;cases a<;>cases b<;>cases c<;>rfl
theorem AP{l:List d9}{φ:(d9×Unit)->Option Bool}(p:d9->Bool)(h:∀x∈l,φ (x,())=some (p x))(hl:l.length<1099511627776)(hn:l.length<n):kX n l φ=some (l.any p):=by
 unfold kX;have e:rM n l φ=vR n l φ:=by kernel_rfl
 rw[e,iT p h hl hn,ai,wU]
def EB(b:au)(l:List d9):Bool:=eo b&&!(l.any λp=>!Wq p)
theorem Wt(b:au) l (hl:l.length<=1000) (hn:2000<=n):Ad n b l=some (EB b l):=by unfold Ad EB;rw[jK,AP (λ p=>!Wq p) (λ p _=>by show tV p=_;unfold tV;rw[Ws];rfl) (by omega) (by omega)];simp only[ai,Ps];cases eo b<;>rfl
theorem af0{a n:Int}(hn:0<n):(if Int.tmod a n<0 then Int.tdiv a n-1 else Int.tdiv a n)=a/n:=by
 have h1:=Int.mul_ediv_add_emod a n;have h2:=Int.emod_nonneg a (by omega:n≠0);have h3:=Int.emod_lt_of_pos a hn;rcases Int.le_total 0 a with h|h;have e1:Int.tmod a n=a%n:=Int.tmod_eq_emod_of_nonneg h;have e2:Int.tdiv a n=a/n:=Int.tdiv_eq_ediv_of_nonneg h;rw[e1,e2,aV (by omega)];obtain⟨b,rfl⟩:∃b,a=-b:=⟨-a,by omega⟩;have hb:0<=b:=by omega
 have e1:Int.tmod (-b) n=-(b%n):=by rw[Int.neg_tmod,Int.tmod_eq_emod_of_nonneg hb]
 have e2:Int.tdiv (-b) n=-(b/n):=by rw[Int.neg_tdiv,Int.tdiv_eq_ediv_of_nonneg hb]
 have g1:=Int.mul_ediv_add_emod b n;have g2:=Int.emod_nonneg b (by omega:n≠0);have g3:=Int.emod_lt_of_pos b hn;rw[e1,e2];by_cases hm:b%n=0;rw[aV (by omega)];have:(-b)/n=-(b/n):=by refine(Int.ediv_eq_iff_of_pos hn).2 ?_;constructor;rw[Int.neg_mul,Int.mul_comm (b/n)];omega;rw[Int.neg_mul,Int.mul_comm (b/n)];omega
 omega;rw[aX (by omega)];have:(-b)/n=-(b/n)-1:=by refine(Int.ediv_eq_iff_of_pos hn).2 ?_;constructor;rw[Int.sub_mul,Int.neg_mul,Int.mul_comm (b/n)];omega;rw[Int.sub_mul,Int.neg_mul,Int.mul_comm (b/n)];omega
 omega
theorem Ni{a n:Int}(hn:0<n)(ha: -4611686018427387904<=a/\a<=4611686018427387904):tX a n=some (a/n):=by
 have nz:(n !=0)=true:=by simp;omega
 have hb: -4611686018427387904<=a/n/\a/n<=4611686018427387904:=by
  constructor;rw[Int.le_ediv_iff_mul_le hn];have: -4611686018427387904*n<=-4611686018427387904:=by omega
  omega;rcases Int.le_total 0 a with h|h;have:=Int.ediv_le_self n h;omega;have:a/n<=0:=by have:=(Int.ediv_lt_iff_lt_mul (a:=a) (b:=1) hn).2 (by omega);omega
  omega
 have hf:=af0 (a:=a) hn;have ht: -4611686018427387904<=Int.tdiv a n/\Int.tdiv a n<=4611686018427387905:=by split at hf<;>omega
 unfold tX;simp[nz];rw[aO (x:=Int.tdiv a n),aO (x:=Int.tdiv a n-1),<- hf];by_cases h:Int.tmod a n<0;have d:decide (Int.tmod a n<0)=true:=by simpa using h
 rw[d,aX h];rfl;have d:decide (Int.tmod a n<0)=false:=by simpa using h
 rw[d,aV h];rfl
def Wu(b:au)(side x y:Int):Int:=if side=0 then x-b.x0 else if side=1 then b.x1-1-x else if side=2 then y-b.y0 else b.y1-1-y
def an4(b:au)(p:d9)(x y:Int):Int:=p.base+p.num*Wu b p.side x y/p.den
def Yb(b:au)(l:List d9)(x y:Int):Int:=l.foldl (λ h p=>min h (an4 b p x y)) 4096
abbrev InG(x y:Int):Prop:=(0<=x/\x<1048576)/\(0<=y/\y<1048576)
theorem adG{b:au}(hb:eo b=true){x y:Int}(h:InG x y) side: -1048576<=Wu b side x y/\Wu b side x y<=1048576:=by simp at hb;obtain⟨h1,h2⟩:=h;unfold Wu;split;omega;split;omega;split<;>omega
theorem aiR{a d:Int}(ha:0<=a/\a<=4096)(hd: -1048576<=d/\d<=1048576): -4294967296<=a*d/\a*d<=4294967296:=by have h1:a*d<=a*1048576:=Int.mul_le_mul_of_nonneg_left hd.2 ha.1;have h2:a*(-1048576)<=a*d:=Int.mul_le_mul_of_nonneg_left hd.1 ha.1;omega
theorem aiS{a n:Int}(hn:0<n)(ha: -4294967296<=a/\a<=4294967296): -4294967296<=a/n/\a/n<=4294967296:=by constructor;rw[Int.le_ediv_iff_mul_le hn];omega;rcases Int.le_total 0 a with h|h;have:=Int.ediv_le_self n h;omega;have:=(Int.ediv_lt_iff_lt_mul (a:=a) (b:=1) hn).2 (by omega);omega
theorem abg{b:au}{l:List d9}{x y:Int}(hb:eo b=true)(hp:∀p∈l,Wq p=true)(h:InG x y)(hl:l.length<=1000)(hn:2000<=n):Jp n b l x y=some (Yb b l x y):=by
 unfold Jp wH;have hr:=hb;simp at hr;obtain⟨h1,h2⟩:=h;rw[aO (x:=x-b.x0),aO (x:=b.x1-1),aO (x:=b.x1-1-x),aO (x:=y-b.y0),aO (x:=b.y1-1),aO (x:=b.y1-1-y)];simp;have:=lC (l:=l) (step:=xw b l x y ⟨x-b.x0,b.x1-1-x,y-b.y0,b.y1-1-y⟩) (λ i s=>(s,(i:Nat))) (λ p s=>min s (an4 b p x y)) (λ s=>s) (λ i hi s=>?_) (λ s=>by simp[xw]) n (by omega) 4096;rw[lp]at this;rw[this];rfl;obtain⟨s1,s2,s3,s4⟩:=(akQ _).1 (hp _ (getElem_mem hi));have ib:cx (l[i]).side 4=true:=by simp[cx];omega
 have g:b7 ([x-b.x0,b.x1-1-x,y-b.y0,b.y1-1-y]:List Int) (l[i]).side=some (Wu b (l[i]).side x y):=by
  have hs:(l[i]).side=0\/(l[i]).side=1\/(l[i]).side=2\/(l[i]).side=3:=by omega
  rcases hs with e|e|e|e<;>rw[e]<;>simp[b7,Wu]
 have db:=adG hb ⟨h1,h2⟩ (l[i]).side;have mb:=aiR s3 db;have dv:=aiS (n:=(l[i]).den) (by omega) mb;simp only[xw,dV hi,aj,bG hi,ai,ib,g];rw[aO (x:=(l[i]).num*Wu b (l[i]).side x y),Ni (by omega) (by omega)];simp only[ai];rw[aO (x:=(l[i]).base+_),aQ (by omega)];rfl
theorem adH(b:au) l:EB b l=true↔eo b=true/\∀p∈l,Wq p=true:=by unfold EB;rw[bg,Bool.not_eq_true',List.any_eq_false];simp
def Hd(x:gQ):Bool:=decide (x.z0<0) || (decide (x.z0>=x.z1) || (decide (x.z1>4096) || (decide (x.area=[]) || !cL x.area)))
def AF(p:Option gQ×gQ):Bool:=Hd p.2 || p.1.any λq=>decide (q.z1>p.2.z0) || (q.z1==p.2.z0&&decide (q.area=p.2.area))
def AQ(s:List gQ):List (Option gQ×gQ):=(none::s.map some).zip s
def EC(s:List gQ):Bool:=decide (s.length<=80)&&!((AQ s).any AF)
theorem pR s:(AQ s).length=s.length:=by simp[AQ]
theorem ED{s:List gQ}{i:Nat}(h:i<(AQ s).length):(AQ s)[i]=(if h0:i=0 then none else some (s[i-1]'(by rw[pR]at h;omega)),s[i]'(by rw[pR]at h;exact h)):=by
 simp[AQ];cases i with
 |zero|succ i=>simp
theorem Rl{s:List gQ}(ha:∀x∈s,x.area.length<=900)(hn:1000<=n):Hz n s=some (EC s):=by
 unfold Hz EC;by_cases h80:s.length<=80;have d:decide ((s.length:Int)>80)=false:=by simp;omega
 have d2:decide (s.length<=80)=true:=by simpa using h80
 have z:∀l:List au,(((l.length:Int))==0)=decide (l=[]):=λl=>by cases l<;>simp<;>omega
 have:=rV (l:=AQ s) (step:=Ae n s) (λ i=>(i:Nat)) AF () (λ _=>false) (λ i hi=>?_) ?_ n (by rw[pR];omega);rw[lp]at this;rw[d,d2,this,<- Pw];cases oO AF (AQ s)<;>rfl;rw[ED];rw[pR]at hi;have hi':decide ((i:Int)<s.length)=true:=by simpa using hi
 have h1:=ha _ (getElem_mem hi);simp only[Ae,hi',aj,bG hi,ai,z,l7 (n:=n) (l:=s[i].area) (by omega) (by omega) hn,AF];rw[aQ (by omega)];have b:((bif decide (s[i].z0<0)then some true else bif decide (s[i].z0>=s[i].z1)then some true else bif decide (s[i].z1>4096)then some true else bif decide (s[i].area=[])then some true else some (!cL s[i].area)):Option Bool)=some (Hd s[i]):=by unfold Hd;cases decide (s[i].z0<0)<;>cases decide (s[i].z0>=s[i].z1)<;>cases decide (s[i].z1>4096)<;>cases decide (s[i].area=[])<;>rfl
 rw[b];simp;cases Hd s[i]with
 |true=>simp
 |false=>
  by_cases h0:i=0;subst h0;have:(((0:Nat))==0)=true:=rfl;simp;have e0:((i:Int)==0)=false:=by simp;omega
  have w:i64.wrap (i-1)=(i-1:Nat):=ni (by omega) (by omega);have h2:=ha _ (getElem_mem (show i-1<s.length by omega));simp[e0,w,bG (show i-1<s.length by omega),afW (n:=n) (a:=s[i-1].area) (b:=s[i].area) (by omega) (by omega),h0];cases decide (s[i-1].z1>s[i].z0)with
  |true=>simp
  |false=>
   cases s[i-1].z1==s[i].z0 with
   |false=>simp
   |true=>cases decide (s[i-1].area=s[i].area)<;>simp
 rw[pR];simp[Ae];have d:decide ((s.length:Int)>80)=true:=by simp;omega
 have d2:decide (s.length<=80)=false:=by simpa using h80
 rw[d,d2];rfl
structure akR(x:gQ):Prop where
 lo:0<=x.z0
 lt:x.z0<x.z1
 hi:x.z1<=4096
 ne:x.area≠[]
 rt:cL x.area=true
def an5(s:List gQ):Prop:=∀i (h:i+1<s.length),s[i].z1<=s[i+1].z0/\¬(s[i].z1=s[i+1].z0/\s[i].area=s[i+1].area)
theorem adJ(x:gQ):Hd x=false↔akR x:=by unfold Hd;simp;constructor;rintro⟨h1,h2,h3,h4,h5⟩;exact⟨by omega,by omega,by omega,h4,h5⟩;rintro⟨h1,h2,h3,h4,h5⟩;exact⟨by omega,by omega,by omega,h4,h5⟩
theorem Wv s:EC s=true↔s.length<=80/\(∀ x∈s,akR x)/\an5 s:=by
 unfold EC;rw[bg,bE,Bool.not_eq_true',List.any_eq_false];refine and_congr_right λ_=>?_;constructor;intro h;have key:∀i (hi:i<s.length),AF ((AQ s)[i]'(by rw[pR];exact hi))=false:=λi hi=>by have:=h _ (getElem_mem (show i<(AQ s).length by rw[pR];exact hi));simpa using this
 refine⟨λ x hx=>?_,λi hi=>?_⟩;obtain⟨i,hi,rfl⟩:=mem_iff_getElem.1 hx;have:=key i hi;rw[ED]at this;unfold AF at this;rw[Bool.or_eq_false_iff]at this;exact(adJ _).1 this.1;have:=key (i+1) hi;rw[ED]at this;unfold AF at this;rw[Bool.or_eq_false_iff]at this;have h2:=this.2;simp only[Nat.succ_ne_zero,dif_neg,not_false_eq_true,Option.any_some,Nat.add_sub_cancel,Bool.or_eq_false_iff,dN,Bool.and_eq_false_iff,beq_eq_false_iff_ne]at h2;refine⟨by omega,λ⟨e1,e2⟩=>?_⟩;rcases h2.2 with h3|h3;exact h3 e1;exact h3 e2;rintro⟨h1,h2⟩ p hp;obtain⟨i,hi,rfl⟩:=mem_iff_getElem.1 hp;rw[ED];rw[pR]at hi;unfold AF;have hb:=(adJ _).2 (h1 _ (getElem_mem hi));by_cases h0:i=0;simp[h0]at hb ⊢;exact hb;obtain⟨j,rfl⟩:∃j,i=j+1:=⟨i-1,by omega⟩;have⟨n1,n2⟩:=h2 j hi;simp only[Nat.succ_ne_zero,dif_neg,not_false_eq_true,Option.any_some,Nat.add_sub_cancel];rw[hb];simp only[Bool.false_or,Bool.or_eq_true,bE,bg,beq_iff_eq];rintro (h|h);omega;exact n2 h
theorem sG{l:List gQ}{φ:(gQ×Unit)->Option Bool}(p:gQ->Bool)(h:∀x∈l,φ (x,())=some (p x))(hl:l.length<1099511627776)(hn:l.length<n):jr n l φ=some (l.any p):=by
 unfold jr tY;have:=rV (l:=l) (step:=l6 l φ) (λ i=>(i:Nat)) p () (λ i=>(i:Nat)) (λ i hi=>?_) (by simp[l6]) n hn;rw[lp]at this;rw[this,<- Pw];cases oO p l with
 |none=>rfl
 |some i=>simp<;>omega
 have hi':decide ((i:Int)<l.length)=true:=by simpa using hi
 simp only[l6,hi',aj,bG hi,ai,h _ (getElem_mem hi)];rw[aQ (by omega)];cases p l[i]<;>rfl
def P3(s:List gQ)(lot:Int)(e:gM):Bool:=e.lot==lot&&(cL e.area&&s.any λc=>decide (c.z1>e.top)&&N1 c.area e.area)
def Nj(l:List gM)(lot:Int)(s:List gQ):Bool:=EC s&&!(l.any (P3 s lot))
theorem Yc{l:List gM}{lot:Int}{s:List gQ}(hl:l.length<=900)(he:∀e∈l,e.area.length<=900)(ha:∀x∈s,x.area.length<=900)(hn:1000<=n):Eo n l lot s=some (Nj l lot s):=by
 unfold Eo Nj;rw[Rl ha hn];simp;cases hr:EC s with
 |false=>rfl
 |true=>
 have l80:=((Wv s).1 hr).1;have:=rV (l:=l) (step:=vE n l lot s) (λ i=>(i:Nat)) (P3 s lot) () (λ _=>false) (λ i hi=>?_) (by simp[vE]) n (by omega);rw[lp]at this;simp;rw[this,<- Pw];cases oO (P3 s lot) l<;>rfl;have hi':decide ((i:Int)<l.length)=true:=by simpa using hi
 have h1:=he _ (getElem_mem hi);have cf:=sG (n:=n) (l:=s) (φ:=λy:gQ×Unit=>qO n y.1 l[i]) (λ c=>decide (c.z1>l[i].top)&&N1 c.area l[i].area) (λ c hc=>by have:=ha c hc;show qO n c l[i]=_;unfold qO;rw[afV (by omega) (by omega) (by omega) (by omega)];cases decide (c.z1>l[i].top)<;>rfl) (by omega) (by omega);simp only[vE,hi',aj,bG hi,ai,l7 (n:=n) (l:=l[i].area) (by omega) (by omega) hn,cf];rw[aQ (by omega)];unfold P3;cases h2:l[i].lot==lot with
 |false=>
  have:(l[i].lot !=lot)=true:=by simp[bne,h2]
  simp[this]
 |true=>
  have:(l[i].lot !=lot)=false:=by simp[bne,h2]
  simp[this];cases cL l[i].area with
  |false=>simp
  |true=>cases s.any λc=>decide (c.z1>l[i].top)&&N1 c.area l[i].area<;>simp
theorem adK(r:au):eo r=true↔(0<=r.x0/\r.x0<r.x1/\r.x1<=1048576)/\(0<=r.y0/\r.y0<r.y1/\r.y1<=1048576):=by simp;omega
theorem JD{b:au}{l:List d9}(r:au) x (hb:eo b=true) (hp:∀p∈l,Wq p=true) (hr:eo r=true) (hx:0<=x/\x<1048576) (hl:l.length<=1000) (hn:2000<=n) v:
 iter (nZ n b l r x) n (v,0)=some (min (min v (Yb b l x r.y0)) (Yb b l x (r.y1-1))):=by
 have ho:=(adK r).1 hr;have w:i64.wrap (r.y1-1)=r.y1-1:=aO (by omega) (by omega);have:=lC (l:=[r.y0,r.y1-1]) (step:=nZ n b l r x) (λ i s=>(s,(i:Nat))) (λ y m=>min m (Yb b l x y)) (λ s=>s) (λ i hi s=>?_) (λ s=>by simp[nZ]) n (by simp;omega) v;rw[lp]at this;exact this;have h2:i<2:=by simpa using hi
 have yb:0<=([r.y0,r.y1-1]:List Int)[i]/\([r.y0,r.y1-1]:List Int)[i] <1048576:=by rcases i with _|_|i;simp;omega;simp;omega;omega
 simp only[nZ,dV h2,aj,aW h2,w,bI hi,ai,abg hb hp ⟨hx,yb⟩ hl hn,aY i]
def anp(b:au)(l:List d9)(v:Int)(r:au):Int:=min (min (min (min v (Yb b l r.x0 r.y0)) (Yb b l r.x0 (r.y1-1))) (Yb b l (r.x1-1) r.y0)) (Yb b l (r.x1-1) (r.y1-1))
theorem JE{b:au}{l:List d9}(r:au)(hb:eo b=true)(hp:∀p∈l,Wq p=true)(hr:eo r=true)(hl:l.length<=1000)(hn:2000<=n) v:
 iter (og n b l r) n (v,0)=some (anp b l v r):=by
 have ho:=(adK r).1 hr;have w:i64.wrap (r.x1-1)=r.x1-1:=aO (by omega) (by omega);have:=lC (l:=[r.x0,r.x1-1]) (step:=og n b l r) (λ i s=>(s,(i:Nat))) (λ x m=>min (min m (Yb b l x r.y0)) (Yb b l x (r.y1-1))) (λ s=>s) (λ i hi s=>?_) (λ s=>by simp[og]) n (by simp;omega) v;rw[lp]at this;exact this;have h2:i<2:=by simpa using hi
 have xb:0<=([r.x0,r.x1-1]:List Int)[i]/\([r.x0,r.x1-1]:List Int)[i] <1048576:=by rcases i with _|_|i;simp;omega;simp;omega;omega
 simp only[og,dV h2,aj,aW h2,w,bI hi,ai,JD r _ hb hp hr xb hl hn,aY i]
def P2(b:au)(l:List d9)(a:List au):Int:=a.foldl (anp b l) 4096
theorem RQ{b:au}{l:List d9}{a:List au}(hb:eo b=true)(hp:∀p∈l,Wq p=true)(ha:∀r∈a,eo r=true)(hal:a.length<=1000)(hl:l.length<=1000)(hn:2000<=n):xA n b l a=some (P2 b l a):=by unfold xA;have:=lC (l:=a) (step:=ru n b l a) (λ i s=>(s,(i:Nat))) (λ r m=>anp b l m r) (λ s=>s) (λ i hi s=>?_) (λ s=>by simp[ru]) n (by omega) 4096;rw[lp]at this;rw[this];rfl;simp only[ru,dV hi,aj,bG hi,ai,JE a[i] hb hp (ha _ (getElem_mem hi)) hl hn,aY i]
theorem ame(r:au):eo r=true↔(0<=r.x0/\r.x0<r.x1/\r.x1<=1048576)/\(0<=r.y0/\r.y0<r.y1/\r.y1<=1048576):=by simp;omega
abbrev Fo(t:jN):Prop:=t.area.length<=900/\t.from_.length*8<=140737488355328
theorem af3{t:jN}(h:Fo t):MF t=some t:=by unfold MF;have h2:=h.2;rw[Pm (by omega),ai,show tF t.from_=some t.from_ from zS (b:=8) (by omega) (by simp[maxLen];omega),ai];simp
theorem aiU{land:List jN}{id:Int}(h:∀t∈land,Fo t)(hl:land.length<1099511627776)(hn:land.length<n):MH n land id=some (l8 land id):=by
 unfold MH;have:=rV (l:=land) (step:=Ec land id) (λ i=>i) (λ t=>t.id==id) () (λ i=>(land.getD i akO,true)) (λ i hi=>?_) ?_ n hn;rw[lp]at this;rw[this];unfold l8;rcases Wm (λ t:jN=>t.id==id) land with ⟨i,hi,h1,h2⟩|⟨h1,h2⟩;rw[h1,h2];simp[hi];rw[h1,h2];rfl;simp only[Ec,dV hi,aj,bG hi,ai,af3 (h _ (getElem_mem hi))];cases land[i].id==id with
 |true=>simp[hi]
 |false=>simp only[ax];rw[aQ (by omega)]
 simp[Ec]
theorem ZI{land:List jN}(h:∀t∈land,Fo t) id:Fo (l8 land id).1:=by unfold l8;split;rename_i t ht;exact h t (List.mem_of_find?_eq_some ht);simp[Fo,akO]
structure aoq(t:eY):Prop where
 rules:t.az.length<=20
 T1:∀r∈t.az,Wp r
 zones:t.b8.length<=20
 land:t.land.length<=20
 lots:∀l∈t.land,Fo l
 bj:t.bj.length<=5
 aoI:∀e∈t.bj,e.area.length<=10
theorem Rm{α:Type}(p:α->Bool):∀l:List α,((List.range l.length).filter λi=>(l[i]?).any p).filterMap (λ i=>l[i]?)=l.filter p
 |[]=>rfl
 |a::l=>by
  have ih:=Rm p l;rw[fU,List.range_succ_eq_map,List.filter_cons,List.filter_cons];have e:(List.filter (λ i=>((a::l)[i]?).any p) (List.map Nat.succ (List.range l.length))).filterMap (λ i=>(a::l)[i]?)=l.filter p:=by rw[List.filter_map,List.filterMap_map];exact ih
  cases hp:p a with
  |true|false=>simp[hp];simpa using e
def ZJ(a r:au):au:=⟨min a.x0 r.x0,min a.y0 r.y0,max a.x1 r.x1,max a.y1 r.y1⟩
def ahG:List au->au
 |[]=>⟨0,0,0,0⟩
 |r::l=>l.foldl ZJ r
def TF(a:List au):au×Bool:=bif decide (a≠[])&&cL a then(ahG a,true)else(⟨0,0,0,0⟩,false)
theorem adL{a:List au}(ha:a≠[])(hv:∀r∈a,eo r=true)(hl:a.length<=900)(hn:2000<=n):MW n a=some (ahG a,true):=by
 unfold MW;have:=lC (l:=a.zip (List.range a.length)) (step:=Ab a) (λ i (s:Bool×Int×Int×Int×Int)=>(s.1,(i:Nat),s.2)) (λ p s=>bif !s.1 then(true,p.1.x0,p.1.y0,p.1.x1,p.1.y1)else(s.1,min s.2.1 p.1.x0,min s.2.2.1 p.1.y0,max s.2.2.2.1 p.1.x1,max s.2.2.2.2 p.1.y1)) (λ s=>s) (λ i hi s=>?_) (λ s=>?_) n (by simp;omega) (false,0,0,0,0);rw[lp]at this;simp only at this;rw[this];cases a with
 |nil=>exact absurd rfl ha
 |cons r l=>
  have gen:∀(l:List au)(k:List Nat)(s:au),l.length<=k.length->(l.zip k).foldl (λ (s:Bool×Int×Int×Int×Int) p=>bif !s.1 then(true,p.1.x0,p.1.y0,p.1.x1,p.1.y1)else(s.1,min s.2.1 p.1.x0,min s.2.2.1 p.1.y0,max s.2.2.2.1 p.1.x1,max s.2.2.2.2 p.1.y1)) (true,s.x0,s.y0,s.x1,s.y1)=(true,(l.foldl ZJ s).x0,(l.foldl ZJ s).y0,(l.foldl ZJ s).x1,(l.foldl ZJ s).y1):=by
   intro l
   induction l with
   |nil=>intro k s _;rfl
   |cons r l ih=>
    intro k s hk;cases k with
    |nil=>simp at hk
    |cons j k=>
     rw[List.zip_cons_cons,foldl_cons,foldl_cons];exact ih k (ZJ s r) (by simpa using hk)
  rw[fU,List.range_succ_eq_map,List.zip_cons_cons,foldl_cons];simp only[Bool.not_false,aj];rw[gen l _ r (by simp)];rfl
 have hi':i<a.length:=by simpa using hi
 obtain⟨s1,s2,s3,s4,s5⟩:=s;have ok:=hv _ (getElem_mem hi');simp only[Ab,dV hi',aj,bG hi',ai,jK,ok,Bool.not_true,ax,Ps,List.getElem_zip,aY i];obtain⟨s1,s2,s3,s4,s5⟩:=s;have:(a.zip (List.range a.length)).length=a.length:=by simp
 simp[Ab]
theorem abh a (hl:a.length<=900) (hn:2000<=n):Jo n a=some (TF a):=by
 unfold Jo TF;cases a with
 |nil=>rfl
 |cons r l=>
  have e:((((r::l).length:Nat):Int)==0)=false:=by simp;omega
  have e2:decide (r::l≠[])=true:=by simp
  rw[l7 (by omega) (by omega) (by omega),e,e2];simp;cases hr:cL (r::l)with
  |false=>rfl
  |true=>
   simp;rw[adL (by simp) (uj hr).1 hl hn];rfl
theorem Jt{V O:Type}{step:V->Option (V⊕O)}(f:Nat->V){s:V}(N:Nat)(o:O)(h0:s=f 0)
 (h1:∀i,i<N->step (f i)=some (.inl (f (i+1)))) (h2:step (f N)=some (.inr o)) (n:Nat) (hn:N<n):iter step n s=some o:=by rw[h0];exact mW f N o h1 h2 n hn
def tb(f:Nat->Nat->Bool):List Bool:=(List.range 144).map λi=>f (i/12) (i%12)
def upd(f:Nat->Nat->Bool)(a b:Nat)(v:Bool):Nat->Nat->Bool:=λx y=>if x=a/\y=b then v else f x y
def an6(p:Nat->Bool):Bool:=(List.range 12).any p
def Pa(w:Nat->Nat->Bool):Nat->Nat->Bool:=λa c=>w a c || an6 λb=>w a b&&w b c
inductive Tc(e:Nat->Nat->Bool):Nat->Nat->Prop
 |one {a b:Nat}:a<12->b<12->e a b=true->Tc e a b
 |trans {a b c:Nat}:Tc e a b->Tc e b c->Tc e a c
theorem Tc.lt{e:Nat->Nat->Bool}{a b:Nat}(h:Tc e a b):a<12/\b<12:=by
 induction h with
 |one h1 h2 _=>exact⟨h1,h2⟩
 |trans _ _ i1 i2=>exact⟨i1.1,i2.2⟩
def dU(v:aC):au:=au.mk v.bm v.bz v.bk v.bx
def okV(v:aC):Bool:=eo (dU v)&&(decide (0<=v.cz)&&(decide (v.cz<v.cC)&&(decide (v.cC<=4096)&&((decide (v.use=0) || decide (v.units=0))&&(decide (0<=v.use)&&(decide (v.use<6)&&(decide (0<=v.units)&&decide (v.units<=1048576))))))))
theorem pU(v:aC):fQ v=some (okV v):=by
 unfold fQ okV;rw[jK];have e1:decide (v.cz<0)=!decide (0<=v.cz):=by rw[<- decide_not,decide_eq_decide];omega
 have e2:decide (v.cz>=v.cC)=!decide (v.cz<v.cC):=by rw[<- decide_not,decide_eq_decide];omega
 have e3:decide (v.cC>4096)=!decide (v.cC<=4096):=by rw[<- decide_not,decide_eq_decide];omega
 have e4:(v.use !=0)=!decide (v.use=0):=by by_cases h:v.use=0<;>simp[h]
 have e5:(v.units !=0)=!decide (v.units=0):=by by_cases h:v.units=0<;>simp[h]
 rw[e1,e2,e3,e4,e5,show au.mk v.bm v.bz v.bk v.bx=dU v from rfl];simp;generalize eo (dU v)=a1;generalize decide (0<=v.cz)=a2;generalize decide (v.cz<v.cC)=a3;generalize decide (v.cC<=4096)=a4;generalize decide (v.use=0)=a5;generalize decide (v.units=0)=a6;generalize decide (0<=v.use)=a7;generalize decide (v.use<6)=a8;generalize decide (0<=v.units)=a9;generalize decide (v.units<=1048576)=j0;cases a1<;>cases a2<;>cases a3<;>cases a4<;>cases a5<;>cases a6<;>cases a7<;>cases a8<;>cases a9<;>rfl
theorem Cw{v:aC}(h:okV v=true):eo (dU v)=true:=by rw[okV,bg]at h;exact h.1
def cj(d:aG):List aC:=d.phases.flatMap (·.aE)
theorem ey{l:List eH}(h:∀p∈l,p.aE.length<=1000):(l.flatMap (·.aE)).length<=l.length*1000:=by
 induction l with
 |nil=>simp
 |cons p l ih=>
  have h1:=h p (by simp);have h2:=ih λq hq=>h q (by simp[hq]);simp only[List.flatMap_cons,fG,fU];omega
def AR(d:aG):Prop:=d.phases.length<=1000/\∀p∈d.phases,p.aE.length<=1000
theorem Ww{d:aG}(h:AR d)(hn:1001<=n):nW n d 0 d.phases.length=some (cj d):=by
 obtain⟨h1,h2⟩:=h;unfold nW;have key:=Jt (step:=nK d 0 d.phases.length) (λ i=>(i,(d.phases.take i).flatMap (·.aE))) (s:=(0,[])) d.phases.length (cj d) rfl (λ i hi=>by
  have e2:decide (i>=0)=true:=by simp
  have hl:=ey (l:=d.phases.take i) λp hp=>h2 p (List.mem_of_mem_take hp);rw[length_take]at hl;have hv:=h2 _ (getElem_mem hi);generalize hL:(d.phases.take i).flatMap (·.aE)=L at hl;have hap:bL L.length L.length d.phases[i].aE.length d.phases[i].aE.length 72=true:=eX (by omega) (by simp[maxLen];omega);simp only[nK,dV hi,aj,bG hi,ai,e2,hap,gJ,aN,aY i];rw[kD hi,List.flatMap_append,hL];simp) (by simp[nK,cj]) n (by omega)
 have hz:be 0 ([]:List aC).length=true:=rfl;simp[key]
def NX(v:aC):Int:=(lH v).getD 0
theorem Wx(v:aC):lH v=some (NX v):=by unfold NX lH;rw[pU];cases v.extra<;>cases okV v<;>rfl
def PI(v:aC):Int:=(oG v).getD 0
theorem adN(v:aC):oG v=some (PI v):=by
 unfold PI oG;rw[pU,Wx];cases h:okV v with
 |false=>rfl
 |true=>
  have e:=Cv (Cw h);unfold dU at e;simp[e]
def Hc(f:aC->Int)(l:List aC):Int:=l.foldl (λ s v=>i64.wrap (s+f v)) 0
def P1(f:aC->Int)(l:List aC):Int:=l.foldl (λ s v=>max s (f v)) 0
theorem anq a1 a8 {a9:List aC} (hl:a9.length<=1000) (hn:1001<=n):∀a0 a2 a3 a4 a5 a6 a7,kU n a0 a1 a2 a3 a4 a5 a6 a7 a8 a9=some (Hc PI a9,a0,a1,a2,a3,a4,a5,a6,a7,a8,a9):=by have key:=lC (l:=a9) (step:=jS a9) (λ i s=>(s,i)) (λ v s=>i64.wrap (s+PI v)) (λ s=>s) (λ i hi s=>by simp only[jS,dV hi,aj,aW hi,bI hi,ai,adN,aY i]) (λ s=>by simp[jS]) n (by omega) 0;rw[lp]at key;unfold kU qz;simp only[key,ai,aN,aj];exact λ_ _ _ _ _ _ _=>rfl
theorem anr a1 a8 {a9:List aC} (hl:a9.length<=1000) (hn:1001<=n):∀a0 a2 a3 a4 a5 a6 a7,kV n a0 a1 a2 a3 a4 a5 a6 a7 a8 a9=some (Hc (·.units) a9,a0,a1,a2,a3,a4,a5,a6,a7,a8,a9):=by have key:=lC (l:=a9) (step:=jV a9) (λ i s=>(s,i)) (λ v s=>i64.wrap (s+v.units)) (λ s=>s) (λ i hi s=>by simp only[jV,dV hi,aj,aW hi,bI hi,ai,oI,aY i]) (λ s=>by simp[jV]) n (by omega) 0;rw[lp]at key;unfold kV qC;simp only[key,ai,aN,aj];exact λ_ _ _ _ _ _ _=>rfl
theorem akS a1 a8 {a9:List aC} (hl:a9.length<=1000) (hn:1001<=n):∀a0 a2 a3 a4 a5 a6 a7,jT n a0 a1 a2 a3 a4 a5 a6 a7 a8 a9=some (P1 NX a9,a0,a1,a2,a3,a4,a5,a6,a7,a8,a9):=by have key:=lC (l:=a9) (step:=iD a9) (λ i s=>(s,i)) (λ v s=>max s (NX v)) (λ s=>s) (λ i hi s=>by simp only[iD,dV hi,aj,aW hi,bI hi,ai,Wx,aY i]) (λ s=>by simp[iD]) n (by omega) 0;rw[lp]at key;unfold jT mG;simp only[key,ai,aN,aj];exact λ_ _ _ _ _ _ _=>rfl
theorem akT a1 a8 {a9:List aC} (hl:a9.length<=1000) (hn:1001<=n):∀a0 a2 a3 a4 a5 a6 a7,jU n a0 a1 a2 a3 a4 a5 a6 a7 a8 a9=some (P1 (·.cC) a9,a0,a1,a2,a3,a4,a5,a6,a7,a8,a9):=by have key:=lC (l:=a9) (step:=iE a9) (λ i s=>(s,i)) (λ v s=>max s v.cC) (λ s=>s) (λ i hi s=>by simp only[iE,dV hi,aj,aW hi,bI hi,ai,nM,aY i]) (λ s=>by simp[iE]) n (by omega) 0;rw[lp]at key;unfold jU mH;simp only[key,ai,aN,aj];exact λ_ _ _ _ _ _ _=>rfl
theorem aiW(e:bD)(a:Jj){u:Int}(h0:0<=u)(h6:u<6):∃b,kP e a u=some b:=by
 obtain⟨k,rfl⟩:∃k:Nat,u=k:=⟨u.toNat,by omega⟩;have hk:k<6:=by omega
 unfold kP;rw[aW hk,bG (l:=[a.a0,a.a1,a.a2,a.a3,a.a4,a.a5]) hk];exact⟨_,rfl⟩
theorem EF{l:List bD}{φ:(bD×Unit)->Option Bool}(p:bD->Bool)(h:∀x∈l,φ (x,())=some (p x))(hl:l.length<=9223372036854775807)(hn:l.length<n):kQ n l φ=some (Az p l):=EZ p h hl hn
theorem ant(p:cB){u:Int}(h0:0<=u)(h6:u<6)(ht:p.tables.length<n)(ht2:p.tables.length<=9223372036854775807)(hr:∀t∈p.tables,t.rows.length<n/\t.rows.length<=9223372036854775807):∃r,zX n p u=some r:=by
 have key:∃o,iter (kR n p u) n 0=some o/\True:=by
  have step:∀i (hi:i<p.tables.length),kR n p u i=some (.inl (i+1:Nat))\/∃z,kR n p u i=some (.inr (.inr z)):=by
   intro i hi;obtain⟨r1,r2⟩:=hr _ (getElem_mem hi);simp only[kR,dV hi,aj,bG hi,ai,aY i];cases ByteArray.toList p.tables[i].name==ByteArray.toList ⟨#[116,114,97,102,102,105,99]⟩with
   |false=>exact Or.inl rfl
   |true=>
    right;simp;generalize Jj.mk _ _ _ _ _ _=A;have hx:=EF (n:=n) (l:=p.tables[i].rows) (φ:=λy1=>kP y1.1 A u) (λ e=>(kP e A u).getD false) (λ e _=>by have⟨b,hb⟩:=aiW e A h0 h6;simp[hb]) r2 r1;rw[hx];simp[wU];cases hany:p.tables[i].rows.any λe=>(kP e A u).getD false with
    |false=>exact⟨_,rfl⟩
    |true=>
     have⟨j,hj,h1,_⟩:=akc hany;rw[h1];simp only[aj,bG hj,ai];exact⟨_,rfl⟩
  have main:∀k i m,i+k=p.tables.length->k<m->∃o,iter (kR n p u) m i=some o/\True:=by
   intro k
   induction k with
   |zero=>
    intro i m hi hm;obtain⟨q,rfl⟩:∃q,m=q+1:=⟨m-1,by omega⟩;have:i=p.tables.length:=(by omega);subst this;exact⟨.inl (),cK (by simp[kR]),trivial⟩
   |succ k ih=>
    intro i m hi hm;obtain⟨q,rfl⟩:∃q,m=q+1:=⟨m-1,by omega⟩;rcases step i (by omega)with h|⟨z,h⟩;rw[dL h];exact ih (i+1) q (by omega) (by omega);exact⟨_,cK h,trivial⟩
  exact main p.tables.length 0 n (by omega) ht
 obtain⟨o,h1,_⟩:=key;unfold zX;rw[h1];cases o with
 |inl w|inr r=>exact⟨_,rfl⟩
theorem af4(p:cB){v:aC}(hv:okV v=true)(ht:p.tables.length<n)(ht2:p.tables.length<=9223372036854775807)(hr:∀t∈p.tables,t.rows.length<n/\t.rows.length<=9223372036854775807):∃r,jI n p v=some r:=by
 simp[okV]at hv;have⟨r,h1⟩:=ant (n:=n) p (u:=v.use) hv.2.2.2.2.2.1 hv.2.2.2.2.2.2.1 ht ht2 hr;unfold jI;rw[h1,adN];simp;have e100:(100 !=0)=true:=rfl;by_cases h:r>0;have e:(r !=0)=true:=by simp;omega
 have e2:decide (r>0)=true:=by simpa using h
 rw[e,e2];simp;cases decide (PI v>i64.wrap (Int.tdiv 109951162777600 r))<;>exact⟨_,rfl⟩;have e2:decide (r>0)=false:=by simpa using h
 rw[e2];exact⟨_,rfl⟩
def amL(n:Nat)(ts:List cO)(v:aC):Int:=(jI n (cB.mk [] ts [] [] [] [] [] 0) v).getD 0
theorem anu a1 a8 {a9:List aC} (hl:a9.length<=1000) (hn:1001<=n) (hv:∀v∈a9,okV v=true) (ht:a1.length<n) (ht2:a1.length<=9223372036854775807) (hr:∀t∈a1,t.rows.length<n/\t.rows.length<=9223372036854775807):∀a0 a2 a3 a4 a5 a6 a7,jF n a0 a1 a2 a3 a4 a5 a6 a7 a8 a9=some (Hc (amL n a1) a9,a0,a1,a2,a3,a4,a5,a6,a7,a8,a9):=by have key:=λa0 a2 a3 a4 a5 a6 a7=>gG (l:=a9) (step:=jX n a9) (λ i s=>(s,i,a0,a1,a2,a3,a4,a5,a6,a7,a8,a9)) (λ v s=>i64.wrap (s+(jI n (cB.mk [] a1 [] [] [] [] [] 0) v).getD 0)) (λ s=>(s,a0,a1,a2,a3,a4,a5,a6,a7,a8,a9)) (λ _ _=>True) (λ i hi s _=>⟨by obtain⟨r,h1⟩:=af4 (n:=n) (cB.mk [] a1 [] [] [] [] [] 0) (hv _ (getElem_mem hi)) ht ht2 hr;have h2:jI n (cB.mk a0 a1 a2 a3 a4 a5 a6 a7) a9[i]=some r:=h1;simp only[jX,dV hi,aj,aW hi,bI hi,ai,kS,h1,h2,aN,aY i,Option.getD_some],trivial⟩) (λ s _=>by simp[jX]) n (by omega) 0 trivial;have key:=λa0 a2 a3 a4 a5 a6 a7=>(lp) ▸ key a0 a2 a3 a4 a5 a6 a7;unfold jF qD;simp only[key,ai,aN,aj];exact λ_ _ _ _ _ _ _=>rfl
theorem akU{α β:Type}(l:List α)(f:α->β)(z:β){i:Nat}(hi:i<l.length):((l.take i).map f++List.replicate (l.length-i) z).set i (f l[i])=(l.take (i+1)).map f++List.replicate (l.length-(i+1)) z:=by
 have h1:((l.take i).map f).length=i:=by simp;omega
 rw[List.set_append_right _ _ (by omega),h1,Nat.sub_self,show l.length-i=(l.length-(i+1))+1 by omega,List.replicate_succ,List.set_cons_zero,kD hi,map_append,aT];rfl
theorem akV{α β:Type}(l:List α)(f:α->β)(z:β){i:Nat}(hi:i<=l.length):((l.take i).map f++List.replicate (l.length-i) z).length=l.length:=by simp;omega
theorem akW{α β:Type}(l:List α)(f:α->β)(z:β){i:Nat}(hi:i<l.length):((l.take (i+1)).map f++List.replicate (l.length-(i+1)) z)[i]? =some (f l[i]):=by rw[List.getElem?_append_left (by simp;omega)];simp[hi]
theorem akX{l:List aC}(hl:l.length<=1000)(hn:1001<=n):iter (gT l) n (0,List.replicate l.length (au.mk 0 0 0 0),[])=some (l.map dU,l.flatMap λv=>[v.bm,v.bk]):=by
 refine Jt (step:=gT l) (λ i=>(i,(l.take i).map dU++List.replicate (l.length-i) (au.mk 0 0 0 0),(l.take i).flatMap λv=>[v.bm,v.bk])) l.length _ ?_ (λ i hi=>?_) ?_ n (by omega);simp;have h1:=akV l dU (au.mk 0 0 0 0) (Nat.le_of_lt hi);have h2:=akU l dU (au.mk 0 0 0 0) hi;have h3:=akW l dU (au.mk 0 0 0 0) hi;have h4:((l.take i).flatMap λv=>[v.bm,v.bk]).length=2*i:=by
  have:∀m:List aC,(m.flatMap λv=>[v.bm,v.bk]).length=2*m.length:=by
   intro m;induction m with
   |nil=>rfl
   |cons a m ih=>simp[ih];omega
  rw[this,length_take];omega
 generalize (l.take i).map dU++List.replicate (l.length-i) (au.mk 0 0 0 0)=B at h1 h2;have e0:(((0:Nat):Int)+i).toNat=i:=by omega
 have et:(l.length:Int).toNat=l.length:=by omega
 have hb:au.mk l[i].bm l[i].bz l[i].bk l[i].bx=dU l[i]:=rfl;have hiB:i<B.length:=by omega
 rw[<- h2]at h3;have g3:b7 (B.set i (dU l[i])) ((0:Nat)+i)=some (dU l[i]):=by rw[oN];exact h3
 have hs:sub ([(dU l[i]).x0,(dU l[i]).x1]:List Int) 0 2=[(dU l[i]).x0,(dU l[i]).x1]:=rfl;have hap:bL (2*i) (2*i) 2 2 8=true:=eX (by omega) (by simp[maxLen];omega);have hl2:([(dU l[i]).x0,(dU l[i]).x1]:List Int).length=2:=rfl;simp only[gT,dV hi,aj,aW hi,bI hi,ai,et,bI hiB,e0,hb,g3,hs,hl2,h4,hap,gJ,aN,aY i];rw[<- h2,kD hi,List.flatMap_append];rfl;simp only[gT,VX,ax,aN,aj,List.take_length];simp
def cst(x w:Int)(s:Int×Int)(r:au):Int×Int:=
 bif decide (r.x0<=x)&&(decide (x<r.x1)&&decide (r.y1>s.2))then(i64.wrap (s.1+i64.wrap (i64.wrap w*i64.wrap (r.y1-max s.2 r.y0))),r.y1)else s
def P0(R:List au)(X:List Int)(n:Int)(k:Nat):Int:=(R.foldl (cst (X.getD k 0) (X.getD (k+1) 0-X.getD k 0)) (n,0)).1
def af5(R:List au)(X:List Int):Int:=(List.range (X.length-1)).foldl (P0 R X) 0
def S3(l:List aC):Int:=af5 (rW wv (l.map dU)) (kN ov (l.flatMap λv=>[v.bm,v.bk]))
theorem akY{l:List aC}{R:List au}{X:List Int} w2 (hR:R.length=l.length) (hX:X.length=w2.length) (hl:l.length<=1000) (hn:1001<=n) {k:Nat} (hk:k+1<w2.length) (hw:w2.length<=10000) s:iter (gU l w2 R X k) n (s,0,0)=some (P0 R X s k):=by
 have et:((l.length:Int).toNat)=l.length:=by omega
 have ew:i64.wrap (k+1)=(k+1:Nat):=aQ (by omega);have g1:X.getD k 0=X[k]'(by omega):=by simp[show k<X.length by omega]
 have g2:X.getD (k+1) 0=X[k+1]'(by omega):=by simp[show k+1<X.length by omega]
 unfold P0;rw[g1,g2];refine lC (l:=R) (step:=gU l w2 R X k) (λ i (s:Int×Int)=>(s.1,s.2,i)) (λ r s=>cst (X[k]'(by omega)) (X[k+1]'(by omega)-X[k]'(by omega)) s r) (λ s=>s.1) (λ i hi v=>?_) (λ v=>?_) n (by omega) (s,0);obtain⟨a,b⟩:=v;simp only[gU,et,dV (show i<l.length by omega),aj,aW (show i<l.length by omega),bI (show i<R.length by omega),ai,aW (show k<w2.length by omega),bI (show k<X.length by omega),ew,aW hk,bI (show k+1<X.length by omega),aY i,cst];cases decide ((R[i]'(by omega)).x0<=X[k]'(by omega))with
 |false=>rfl
 |true=>
  simp;cases decide (X[k]'(by omega)<(R[i]'(by omega)).x1)with
  |false=>rfl
  |true=>
   cases decide ((R[i]'(by omega)).y1>b)<;>rfl
 obtain⟨a,b⟩:=v;simp[gU,hR]
theorem akZ a1 a8 {a9:List aC} (hl:a9.length<=1000) (hn:10000<=n):∀a0 a2 a3 a4 a5 a6 a7,iZ n a0 a1 a2 a3 a4 a5 a6 a7 a8 a9=some (S3 a9,a0,a1,a2,a3,a4,a5,a6,a7,a8,a9):=by
 have et:((a9.length:Int).toNat)=a9.length:=by omega
 have mk:wC (a9.length:Nat) 32=true:=ahD (by omega) (by simp[maxLen];omega);have d1:decide ((a9.length:Nat)<=(a9.length:Nat))=true:=by simp
 have d2:decide (0<=(a9.length:Nat))=true:=by simp
 have hz:be 0 ([]:List Int).length=true:=rfl;have hx:(a9.flatMap λv=>[v.bm,v.bk]).length<=2000:=by
  have:∀m:List aC,(m.flatMap λv=>[v.bm,v.bk]).length=2*m.length:=by
   intro m;induction m with
   |nil=>rfl
   |cons a m ih=>simp[ih];omega
  rw[this];omega
 unfold iZ;rw[et,akX hl (by omega)];unfold S3;generalize (a9.flatMap λv=>[v.bm,v.bk])=W at hx;have srt:=JC (n:=n) (l:=a9.map dU) (φ:=λy1=>iY y1.1 y1.2.1) (λ x y=>if x.y0<y.y0 then -1 else if y.y0<x.y0 then 1 else 0) (λ x y=>by show iY x y=_;unfold iY;rw[jf];rfl) (λ x y=>by unfold wv;rw[decide_eq_decide];constructor;intro h;split at h;assumption;split at h<;>omega;intro h;rw[aX h];decide) (by simp;omega) (by simp;omega);have hm:be a9.length (a9.map dU).length=true:=by simp
 have hR:(rW wv (a9.map dU)).length=a9.length:=by rw[D8 ahF];simp
 have hX:(kN ov W).length=W.length:=(Ea ov W).length_eq;simp[mk,srt,pO (show W.length<1099511627776 by omega) (show W.length<n by omega)];generalize rW wv (a9.map dU)=R at hR;generalize kN ov W=X at hX;have key:iter (gV n a9 W R X) n (0,0)=some (af5 R X):=by
  have eN:max 0 (i64.wrap ((W.length:Nat)-1))=(W.length-1:Nat):=by
   cases h:W.length with
   |zero=>rfl
   |succ k=>rw[ni (by omega) (by omega)];omega
  have hrl:(List.range (X.length-1)).length=W.length-1:=by rw[List.length_range];omega
  unfold af5;refine lC (l:=List.range (X.length-1)) (step:=gV n a9 W R X) (λ i s=>(s,i)) (λ k s=>P0 R X s k) (λ s=>s) (λ i hi s=>?_) (λ s=>?_) n (by omega) 0;have hi':i<W.length-1:=by omega
  simp only[gV,eN,dV hi',aj,akY (n:=n) (l:=a9) (R:=R) (X:=X) W hR hX hl (by omega) (k:=i) (by omega) (by omega) s,ai,aY i,List.getElem_range];simp[gV,eN,hrl]
 rw[key];exact λ_ _ _ _ _ _ _=>rfl
def NO(b:au)(k:Int):au:=⟨b.x0-k,b.y0-k,b.x1+k,b.y1+k⟩
def EG(area:List au)(b:au)(k:Int):Bool:=eo (NO b k)&&decide (area.foldl (λ s y=>Wo (NO b k) s y) 0=N0 (NO b k))
theorem aiX(b:au) k a2 a3 a4 a5 a6 a7 a8 a9 {j0:List au} tc (hb:eo b=true) (h0:0<=k) (h1:k<=1048576) (hl:j0.length<=1000) (hn:1001<=n):
 jW n b k a2 a3 a4 a5 a6 a7 a8 a9 j0 tc=some (EG j0 b k,a2,a3,a4,a5,a6,a7,a8,a9,j0,tc):=by
 rw[ame]at hb;unfold jW AJ EG;rw[aO (x:=b.x0-k),aO (x:=b.y0-k),aO (x:=b.x1+k),aO (x:=b.y1+k),show au.mk (b.x0-k) (b.y0-k) (b.x1+k) (b.y1+k)=NO b k from rfl,jK];generalize NO b k=g;simp;cases hg:eo g with
 |false=>simp
 |true=>
  have key:=lC (l:=j0) (step:=iU j0 (g,true)) (λ i s=>(s,i)) (λ y s=>Wo g s y) (λ s=>s) (λ i hi s=>by
   simp only[iU,dV hi,aj,bG hi,ai,yN,aY i,Wo];cases h1:eo g with
   |false=>rfl
   |true=>
    cases h2:eo j0[i]with
    |false=>rfl
    |true=>
     cases h3:eo (E9 g j0[i])with
     |false=>rfl
     |true=>simp[Cv h3]) (λ s=>by simp[iU]) n (by omega) 0
  rw[lp]at key;simp[key,Cv hg];congr 2
def PK(p:Int->Bool):Nat->Int->Int->Int
 | 0,lo,_=>lo
 |k+1,lo,hi=>bif decide (lo<hi)then(bif p ((lo+hi+1)/2)then PK p k ((lo+hi+1)/2) hi else PK p k lo ((lo+hi+1)/2-1))else lo
theorem abk(p:Int->Bool):∀k lo hi,lo<=hi->lo<=PK p k lo hi/\PK p k lo hi<=hi
 | 0,lo,hi,h=>by simp[PK];omega
 |k+1,lo,hi,h=>by
  simp[PK];by_cases h1:lo<hi;have e:decide (lo<hi)=true:=by simpa using h1
  rw[e,aj];cases p ((lo+hi+1)/2)with
  |true=>have:=abk p k ((lo+hi+1)/2) hi (by omega);simp;omega
  |false=>have:=abk p k lo ((lo+hi+1)/2-1) (by omega);simp;omega
  have e:decide (lo<hi)=false:=by simpa using h1
  rw[e,ax];omega
theorem af6{v:aC}(hv:eo (dU v)=true) a2 a3 a4 a5 a6 a7 a8 a9 {j0:List au} tc (hl:j0.length<=1000) (hn:1001<=n):
 ∀(k:Nat) lo hi m,0<=lo->lo<=hi->hi<=1048576->hi-lo<2 ^ k->k<m->iter (eZ n v) m (lo,hi,a2,a3,a4,a5,a6,a7,a8,a9,j0,tc)=some (PK (EG j0 (dU v)) k lo hi,a2,a3,a4,a5,a6,a7,a8,a9,j0,tc):=by
 intro k
 induction k with
 |zero=>
  intro lo hi m h0 h1 h2 h3 hm;obtain⟨q,rfl⟩:∃q,m=q+1:=⟨m-1,by omega⟩;have:lo=hi:=by simp at h3;omega
  subst this;refine cK ?_;have e:decide (lo<lo)=false:=by simp
  simp[eZ,PK]
 |succ k ih=>
  intro lo hi m h0 h1 h2 h3 hm;obtain⟨q,rfl⟩:∃q,m=q+1:=⟨m-1,by omega⟩;have hp:(2:Int) ^ (k+1)=2*2 ^ k:=by rw[Int.pow_succ];omega
  rw[hp]at h3;by_cases hlt:lo<hi;have e:decide (lo<hi)=true:=by simpa using hlt
  have e2:((2:Nat) !=0)=true:=rfl;have em:i64.wrap (Int.tdiv (i64.wrap (i64.wrap (lo+hi)+1)) 2)=(lo+hi+1)/2:=by rw[aO (x:=lo+hi),aO (x:=lo+hi+1),Int.tdiv_eq_ediv_of_nonneg (by omega),aO (by omega) (by omega)]
  have hi2:=aiX (n:=n) (dU v) ((lo+hi+1)/2) a2 a3 a4 a5 a6 a7 a8 a9 (j0:=j0) tc hv (by omega) (by omega) hl hn;unfold dU at hi2;cases hc:EG j0 (dU v) ((lo+hi+1)/2)with
  |true=>
   rw[dL (v':=((lo+hi+1)/2,hi,a2,a3,a4,a5,a6,a7,a8,a9,j0,tc)) (by unfold dU at hc;simp[eZ,e,em,hi2,hc]),ih _ _ _ (by omega) (by omega) (by omega) (by omega) (by omega)];simp[PK,e,hc]
  |false=>
   rw[dL (v':=(lo,(lo+hi+1)/2-1,a2,a3,a4,a5,a6,a7,a8,a9,j0,tc)) (by unfold dU at hc;simp[eZ,e,em,hi2,hc,aO (x:=(lo+hi+1)/2-1)]),ih _ _ _ (by omega) (by omega) (by omega) (by omega) (by omega)];simp[PK,e,hc]
  have e:decide (lo<hi)=false:=by simpa using hlt
  refine cK ?_;simp[eZ,e,PK]
def Cx(area:List au)(l:List aC):Int:=l.foldl (λ b v=>PK (EG area (dU v)) 21 0 b) 1048576
theorem af7 a0 a1 a2 a3 a4 a5 a6 a7 {a8:List au} {a9:List aC} (hv:∀v∈a9,okV v=true) (hl:a9.length<=1000) (h8:a8.length<=1000) (hn:1001<=n):jE n a0 a1 a2 a3 a4 a5 a6 a7 a8 a9=some (Cx a8 a9,a0,a1,a2,a3,a4,a5,a6,a7,a8,a9):=by have key:=gG (l:=a9) (step:=iM n a9) (λ i s=>(s,i,a0,a1,a2,a3,a4,a5,a6,a7,a8,a9)) (λ v s=>PK (EG a8 (dU v)) 21 0 s) (λ s=>(s,a0,a1,a2,a3,a4,a5,a6,a7,a8,a9)) (λ _ s=>0<=s/\s<=1048576) (λ i hi s hs=>by have h1:=af6 (n:=n) (Cw (hv _ (getElem_mem hi))) a0 a1 a2 a3 a4 a5 a6 a7 (j0:=a8) a9 h8 hn 21 0 s n (by omega) hs.1 hs.2 (by have:2 ^ 21=2097152:=rfl;omega) (by omega);have h2:=abk (EG a8 (dU a9[i])) 21 0 s hs.1;refine⟨?_,by omega,by omega⟩;simp only[iM,dV hi,aj,aW hi,bI hi,ai,aN,h1,aY i]) (λ s _=>by simp[iM]) n (by omega) 1048576 (by omega);rw[lp]at key;unfold jE;simp[key];rfl
def iA(d:aG):List aC:=((cj d).take 40).filter okV
theorem abl(d:aG):∀v∈iA d,okV v=true:=λv hv=>(mem_filter.1 hv).2
theorem Yd(d:aG):(iA d).length<=40:=Nat.le_trans (length_filter_le _ _) (by rw[length_take];omega)
def qR(lot:jN):List au:=bif cL lot.area then lot.area else []
theorem an7{l:List aC} a0 a1 a2 a3 a4 a5 a6 a7 a8 (hl:l.length<=9223372036854775807) (hn:l.length<n):
 iter (qM l) n (0,a0,a1,a2,a3,a4,a5,a6,a7,a8,[])=some (a0,a1,a2,a3,a4,a5,a6,a7,a8,(l.take 40).filter okV):=by
 refine Jt (step:=qM l) (λ i=>(i,a0,a1,a2,a3,a4,a5,a6,a7,a8,((l.take i).take 40).filter okV)) l.length _ (by simp) (λ i hi=>?_) ?_ n hn;have hlen:(((l.take i).take 40).filter okV).length<=40:=Nat.le_trans (length_filter_le _ _) (by rw[length_take];omega);have e40:decide ((i:Int)<40)=decide (i<40):=by rw[decide_eq_decide];omega
 have hs:sub ([l[i]]:List aC) 0 1=[l[i]]:=rfl;have hN:((l.take (i+1)).take 40).filter okV=((l.take i).take 40).filter okV++(bif decide (i<40)&&okV l[i]then [l[i]]else []):=by
  by_cases h:i<40;have h1:(l.take i).take 40=l.take i:=take_of_length_le (by rw[length_take];omega);have h2:(l.take (i+1)).take 40=l.take (i+1):=take_of_length_le (by rw[length_take];omega);have h3:decide (i<40)=true:=by simpa using h
  rw[h1,h2,kD hi,List.filter_append,h3];cases h4:okV l[i]<;>simp[h4];have h3:decide (i<40)=false:=by simpa using h
  rw[List.take_take,List.take_take,h3,show min 40 (i+1)=40 by omega,show min 40 i=40 by omega];simp
 rw[hN];generalize ((l.take i).take 40).filter okV=L at hlen;have hap:bL L.length L.length 1 1 72=true:=eX (by omega) (by simp[maxLen];omega);simp only[qM,dV hi,aj,aW hi,bI hi,ai,e40,pU,aY i];cases decide (i<40)with
 |false=>simp
 |true=>
  simp;cases okV l[i]with
  |false=>simp
  |true=>simp[hs,hap]
 simp[qM]
def af8(n:Nat)(p:cB):Prop:=p.tables.length<n/\p.tables.length<=9223372036854775807/\∀t∈p.tables,t.rows.length<n/\t.rows.length<=9223372036854775807
def Cy:ByteArray:=⟨#[115,101,116,98,97,99,107]⟩
def an8(n:Nat)(ts:List cO)(A:List au)(l:List aC):List bD:=[⟨⟨#[97,114,101,97]⟩,bif cL A then KR A else 0⟩,⟨⟨#[99,111,118,101,114]⟩,S3 l⟩,⟨⟨#[102,108,111,111,114]⟩,Hc PI l⟩,⟨⟨#[102,108,111,111,114,115]⟩,P1 NX l⟩,⟨⟨#[104,101,105,103,104,116]⟩,P1 (·.cC) l⟩,⟨⟨#[104,111,109,101,115]⟩,Hc (·.units) l⟩,⟨⟨#[114,117,110,111,102,102]⟩,S3 l⟩,⟨Cy,Cx A l⟩,⟨⟨#[116,114,97,102,102,105,99]⟩,Hc (amL n ts) l⟩]
theorem an9{p:cB}{lot:jN}{d:aG}(hp:af8 n p)(hl:lot.area.length<=900)(hd:AR d)(hn:2000000<=n):∀D Z R C V S H,nN n (cB.mk D p.tables Z R C V S H) lot d=some (an8 n p.tables (qR lot) (iA d)):=by
 have hs1:qR lot=(bif cL lot.area then lot.area else []):=rfl;have hsl:(qR lot).length<=900:=by unfold qR;cases cL lot.area<;>simp[hl]
 have hvl:=Yd d;have GP:=abl d;have hfl:=ey hd.2;have hd1:=hd.1;obtain⟨hp1,hp2,hp3⟩:=hp;have hz:be 0 ([]:List aC).length=true:=rfl;have It:∀D Z R C V S H,((bif cL lot.area then some (D,p.tables,Z,R,C,V,S,H,lot.area)else some (D,p.tables,Z,R,C,V,S,H,[])):Option ((List gP)×(List cO)×(List fJ)×(List bP)×(List ji)×(List ic)×(List dw)×Int×(List au)))=some (D,p.tables,Z,R,C,V,S,H,qR lot):=by intro D Z R C V S H;rw[hs1];cases cL lot.area<;>rfl
 have h2:=akZ (n:=n) p.tables (qR lot) (a9:=iA d) (by omega) (by omega);have h3:=anq (n:=n) p.tables (qR lot) (a9:=iA d) (by omega) (by omega);have h4:=akS (n:=n) p.tables (qR lot) (a9:=iA d) (by omega) (by omega);have h5:=akT (n:=n) p.tables (qR lot) (a9:=iA d) (by omega) (by omega);have h6:=anr (n:=n) p.tables (qR lot) (a9:=iA d) (by omega) (by omega);have h8:=λD Z R C V S H=>af7 (n:=n) D p.tables Z R C V S H (a8:=qR lot) (a9:=iA d) GP (by omega) (by omega) (by omega);have h9:=anu (n:=n) p.tables (qR lot) (a9:=iA d) (by omega) (by omega) GP hp1 hp2 hp3;intro D Z R C V S H;unfold nN;rw[l7 (by omega) (by omega) (by omega),Ww hd (by omega)];simp[It];rw[an7 (n:=n) D p.tables Z R C V S H (qR lot) (by show(cj d).length<=_;unfold cj;omega) (by show(cj d).length<_;unfold cj;omega)];have hr:((cj d).take 40).filter okV=iA d:=rfl;have s1:∀e:bD,sub ([e]:List bD) 0 1=[e]:=λ_=>rfl;have ap:∀k,k<=20->bL k k 1 1 24=true:=λk hk=>eX (by omega) (by simp[maxLen];omega);have lot:mY n D p.tables Z R C V S H (qR lot) (iA d)=some (bif cL (qR lot)then KR (qR lot)else 0,D,p.tables,Z,R,C,V,S,H,qR lot,iA d):=by unfold mY;rw[Wi (by omega) (by omega)];simp
 simp[hr,lot,h2,h3,h4,ap 4 (by omega),h5,ap 5 (by omega),h6,ap 6 (by omega),h8,ap 7 (by omega),h9,ap 8 (by omega),Nat.reduceAdd,jh];rfl
theorem anv{p:cB}{lot:jN}{d:aG}(hp:af8 n p)(hl:lot.area.length<=900)(hd:AR d)(hn:2000000<=n):∃e1 e2 e3 e4 e5 e6 e7 e8:Int,∀D Z R C V S H,nN n (cB.mk D p.tables Z R C V S H) lot d=some [⟨⟨#[97,114,101,97]⟩,e1⟩,⟨⟨#[99,111,118,101,114]⟩,e2⟩,⟨⟨#[102,108,111,111,114]⟩,e3⟩,⟨⟨#[102,108,111,111,114,115]⟩,e4⟩,⟨⟨#[104,101,105,103,104,116]⟩,e5⟩,⟨⟨#[104,111,109,101,115]⟩,e6⟩,⟨⟨#[114,117,110,111,102,102]⟩,e7⟩,⟨Cy,Cx (qR lot) (iA d)⟩,⟨⟨#[116,114,97,102,102,105,99]⟩,e8⟩]:=⟨_,_,_,_,_,_,_,_,an9 (n:=n) hp hl hd hn⟩
theorem aoa{p:cB}{lot:jN}{d:aG}(hp:af8 n p)(hl:lot.area.length<=900)(hd:AR d)(hn:2000000<=n):∃e1 e2 e3 e4 e5 e6 e7 e8:Int,∀R:List bP,nN n (cB.mk p.defs p.tables p.zones R p.caps p.views p.vi p.hours) lot d=some [⟨⟨#[97,114,101,97]⟩,e1⟩,⟨⟨#[99,111,118,101,114]⟩,e2⟩,⟨⟨#[102,108,111,111,114]⟩,e3⟩,⟨⟨#[102,108,111,111,114,115]⟩,e4⟩,⟨⟨#[104,101,105,103,104,116]⟩,e5⟩,⟨⟨#[104,111,109,101,115]⟩,e6⟩,⟨⟨#[114,117,110,111,102,102]⟩,e7⟩,⟨Cy,Cx (qR lot) (iA d)⟩,⟨⟨#[116,114,97,102,102,105,99]⟩,e8⟩]:=by have⟨e1,e2,e3,e4,e5,e6,e7,e8,h⟩:=anv (n:=n) hp hl hd hn;exact⟨e1,e2,e3,e4,e5,e6,e7,e8,λR=>h _ _ R _ _ _ _⟩
theorem ahH(ds:List (ByteArray×ET)) s:∀(k:Nat) i,Mv ds s k=some i->0<=i/\i<k
 | 0,i,h=>by simp[Mv]at h
 |k+1,i,h=>by simp[Mv]at h;split at h;cases h;omega;have:=ahH ds s k i h;omega
theorem amh{ds:List (ByteArray×ET)}(h:rk ds<=4000000):X7 (oH ds) ds.length:=by have hl:=Tt ds;refine⟨by simp[oH],by omega,λl hl=>?_⟩;simp only[oH,mem_map]at hl;obtain⟨d,hd,rfl⟩:=hl;have h1:=Tv hd;have h2:=ET.pb d.2;have h3:=adi d.2.names;refine⟨Nat.le_trans (List.length_filterMap_le _ _) (by omega),λk hk=>?_⟩;simp[iK]at hk;obtain⟨s,_,hk⟩:=hk;exact ahH ds s _ k hk
theorem adP{M:List ByteArray}(hM:M.length<=1000)(hn:1001<=n)(w0:List (ByteArray×Bool)):∃w,iter (nY M) n (0,w0)=some w:=by obtain⟨o,h,_⟩:=fC (step:=nY M) (λ i (v:Int×List (ByteArray×Bool))=>∃w,v=((i:Int),w)/\i<=M.length) (λ _=>True) M.length (λ k v ⟨_,_,h⟩=>h) (by rintro i v ⟨w,rfl,hi⟩;by_cases hlt:i<M.length;simp only[nY,show decide ((i:Int)<M.length)=true from by simp;omega,aj,aW hlt,bI hlt,ai,aY i];exact .inl ⟨_,rfl,_,rfl,hlt⟩;simp only[nY,show decide ((i:Int)<M.length)=false from by simp;omega,ax];exact .inr ⟨_,rfl,trivial⟩) n 0 (0,w0) ⟨_,rfl,Nat.zero_le _⟩ (by omega);exact⟨o,h⟩
theorem adQ{p:cB}(hp:p.defs.length<=4000000)(hn:4000001<=n)(w0:List (ByteArray×Bool)):iter (lJ p) n (0,w0)=some (.inl ())\/iter (lJ p) n (0,w0)=some (.inr ([],[],5)):=by
 obtain⟨o,h,h2⟩:=fC (step:=lJ p) (λ i (v:Int×List (ByteArray×Bool))=>∃w,v=((i:Int),w)/\i<=p.defs.length) (λ o=>o=.inl ()\/o=.inr ([],[],5)) p.defs.length (λ k v ⟨_,_,h⟩=>h) (by
  rintro i v ⟨w,rfl,hi⟩;by_cases hlt:i<p.defs.length;simp only[lJ,show decide ((i:Int)<p.defs.length)=true from by simp;omega,aj,bG hlt,ai,aY i];cases (gZ Gb.fW p.defs[i].name w).getD false with
  |true=>exact .inr ⟨_,rfl,.inr rfl⟩
  |false=>exact .inl ⟨_,rfl,_,rfl,hlt⟩
  simp only[lJ,show decide ((i:Int)<p.defs.length)=false from by simp;omega,ax];exact .inr ⟨_,rfl,.inl rfl⟩) n 0 (0,w0) ⟨_,rfl,Nat.zero_le _⟩ (by omega)
 rcases h2 with rfl|rfl;exact .inl h;exact .inr h
theorem adR:∃M,wG=some M/\M.length=9:=⟨_,rfl,rfl⟩
def gp(l:List gP):Prop:=rk (l.map toD)<=4000000
theorem gp.len{l:List gP}(h:gp l):l.length<=4000000:=by have:=Tt (l.map toD);rw[length_map]at this;unfold gp at h;omega
theorem gp.body{l:List gP}(h:gp l){d:gP}(hd:d∈l):(toE (bU.mk d.iu d.ly d.kq d.ik d.el)).wt<=4000000:=by have h1:=Tv (mem_map.2 ⟨d,hd,rfl⟩:toD d∈l.map toD);unfold gp at h;simp[toD,ET.wt]at h1;simp[toE,ET.wt];omega
theorem RS{p:cB}(hp:gp p.defs)(hn:5000003<=n):∃r,nQ n p=some r/\r.1.length<=p.defs.length/\(∀ k∈r.1,0<=k/\k<p.defs.length)/\r.2.1.length<=p.defs.length+1:=by
 obtain⟨M,hM,hM9⟩:=adR;obtain⟨w,hw⟩:=adP (n:=n) (M:=M) (by omega) (by omega) [];have hg:X7 (oH (p.defs.map toD)) p.defs.length:=by have:=amh hp;rwa [length_map]at this
 have PF:lI p.defs=some (p.defs,oH (p.defs.map toD)):=by unfold lI;rw[Nat.ble_eq_true_of_le hp];rfl
 simp only[nQ,hM,ai,hw];rcases adQ (n:=n) (p:=p) hp.len (by omega) w with h|h;have⟨c,hc,hc2,hc3⟩:=adr (n:=n) (a0:=p.defs) hg rfl hn;simp only[h,jB,PF,ai,hc];cases h0:(c.length==0)with
 |true=>
  have e:c=[]:=List.eq_nil_of_length_eq_zero (by simpa using h0);obtain⟨l,hl,hll,hlr⟩:=akG (n:=n) (a0:=pE.mk p.defs (oH (p.defs.map toD))) hg rfl (hc2 e) (by omega);simp only[aj,ai,ax,hl,jh,aN];exact⟨_,rfl,by simp[hll],hlr,by simp⟩
 |false=>
  simp only[aj,ai,ax,jh,aN];exact⟨_,rfl,by simp,by simp,hc3⟩
 simp only[h,p9];exact⟨_,rfl,by simp,by simp,by simp⟩
theorem Cz(x:bU):bU.mk x.op x.n x.s x.key x.args=x:=by cases x;rfl
theorem Nk:∀l:List bU,Hy l=l.map toE
 |[]=>rfl
 |x::xs=>by simp[Hy,Nk xs]
theorem ahI:∀{l:List ET}{t:ET},t∈l->t.wt<=ET.tf l
 |x::l,t,h=>by simp[ET.tf];rcases aR.1 h with rfl|h;omega;have:=ahI h;omega
theorem af9{e x:bU}(h:x∈e.args):(toE x).wt<(toE e).wt:=by have h1:(toE x).wt<=ET.tf (Hy e.args):=ahI (by rw[Nk];exact mem_map.2 ⟨x,h,rfl⟩);cases e;simp[toE,ET.wt]at *;omega
theorem abm(e:bU):e.args.length<(toE e).wt:=by have h1:=ET.qS (Hy e.args);rw[Nk,length_map]at h1;cases e;simp[toE,ET.wt,Nk]at *;omega
def VR:Nat->bU->Prop
 | 0,_=>False
 |k+1,e=>yH e.op=some ((e.args.length:Int),true)/\∀x∈e.args,VR k x
theorem aga op:∃a b,yH op=some (a,b):=by simp only[yH];cases (op==0)<;>cases (op==1)<;>cases (op==2)<;>cases (op==3)<;>cases (op==9)<;>cases (op==15)<;>cases (op==16)<;>cases (decide (op>=0))<;>exact⟨_,_,rfl⟩
theorem ZK(hn:4000002<=n):∀(m:Nat)(e:bU)(a:Int),m<=9223372036854775000->0<=a->a<=12->13<=a+m->(toE e).wt<=4000000->∃r,sj n m e a=some r/\1<=r/\r<=13+m/\(r<=12->VR m e)
 | 0,_,_,_,_,_,h,_=>absurd h (by omega)
 |m+1,e,a,hm,h0,h1,h2,h3=>by
  have⟨x,b,hx⟩:=aga e.op;have hla:=abm e;show ∃r,zY n (sj n m) e a=some r/\_;simp[zY,hx];have bad:∃r,some (13:Int)=some r/\1<=r/\r<=13+(m+1:Nat)/\(r<=12->VR (m+1) e):=⟨13,rfl,by omega,by omega,λh=>absurd h (by omega)⟩;cases b with
  |false=>simpa[Bool.not_false,aj,ai]using bad
  |true=>
   simp;by_cases hxl:x=e.args.length;subst hxl;simp;by_cases ha:a>=12;simpa[ha,decide_true,aj]using bad;simp[ha]
   obtain⟨o,g1,g2,g3,g4⟩:=fC (step:=xq n (sj n m) e a) (λ i (v:Int×Int)=>v.2=i/\i<=e.args.length/\0<=v.1/\v.1<=13+m/\(v.1<=11->∀y∈e.args.take i,VR m y))
    (λ o=>0<=o/\o<=13+m/\(o<=11->∀y∈e.args,VR m y)) e.args.length (λ k v h=>h.2.1) (by rintro i ⟨v2,v3⟩ ⟨hv,hi,i1,i2,i3⟩;simp at hv i1 i2 i3;subst hv;by_cases hlt:i<e.args.length;left;have hwx:=af9 (getElem_mem hlt);obtain⟨r,r1,r2,r3,r4⟩:=ZK hn m e.args[i] (a+1) (by omega) (by omega) (by omega) (by omega) (by omega);refine⟨(max v2 r,(i+1:Nat)),?_,rfl,hlt,by show 0<=max v2 r;omega,by show max v2 r<=_;omega,λh y hy=>?_⟩;simp only[xq,show decide ((i:Int)<e.args.length)=true from by simp;omega,aj,bG hlt,ai,Cz,aO (show -9223372036854775808<=a+1 by omega) (show a+1<=9223372036854775807 by omega),r1,aY i];have h':max v2 r<=11:=h;rw[List.take_add_one,dJ hlt]at hy;rw[bK]at hy;rcases hy with hy|hy;exact i3 (by omega) y hy;simp at hy;subst hy;exact r4 (by omega);right;refine⟨v2,?_,i1,i2,λh y hy=>i3 h y (by rw[take_of_length_le (by omega)];exact hy)⟩;simp only[xq,show decide ((i:Int)<e.args.length)=false from by simp;omega,ax]) n 0 (0,0) ⟨rfl,Nat.zero_le _,by simp,by show 0<=_;omega,by simp⟩ (by omega)
   simp only[g1,ai];rw[aO (by omega) (by omega)];exact⟨o+1,rfl,by omega,by omega,λh=>⟨hx,g4 (by omega)⟩⟩;simpa[show (x !=(e.args.length:Nat))=true from by simpa using hxl,aj,ai]using bad
theorem Rn(hn:4000002<=n)(hn2:n<=9223372036854775000){e:bU}(h:(toE e).wt<=4000000):∃b,Hw n e=some b/\(b=true->VR n e):=by obtain⟨r,h1,h2,h3,h4⟩:=ZK hn n e 0 hn2 (by omega) (by omega) (by omega) h;refine⟨decide (r<=12),?_,λh=>h4 (by simpa using h)⟩;simp[Hw,Cz,Pk,h1]
def aoc(tables:List cO)(s key:ByteArray):Int:=match tables.find? λt=>ByteArray.toList t.name==ByteArray.toList s with
 |some t=>an3 t key
 |none=>0
def Sp(ts:List cO):Prop:=ts.length<=4000000/\∀t∈ts,t.rows.length<=4000000
theorem aiY(hn:4000002<=n){a0:List gP}{ts:List cO}{a2:List fJ}{a3:List bP}{a4:List ji}{a5:List ic}{a6:List dw}{a7:Int}{zs:List ByteArray}(ht:Sp ts)(e:bU)(kn:List (ByteArray×Int)):jG n a0 ts a2 a3 a4 a5 a6 a7 zs e kn=some (aoc ts e.s e.key,kn):=by
 have h1:=ht.1;simp[jG];rw[Fu (λ t=>ByteArray.toList t.name==ByteArray.toList e.s) (λ x _=>rfl) (by omega) (by omega)];simp[aoc];rcases Wn (λ t:cO=>ByteArray.toList t.name==ByteArray.toList e.s) ts with ⟨i,hi,h1,h2⟩|⟨h1,h2⟩;rw[h1,h2];have d:decide ((i:Int)<0)=false:=by simp
 have hr:=ht.2 _ (getElem_mem hi);simp[d,bG hi];rw[Fv (λ x=>ByteArray.toList x.name==ByteArray.toList e.key) (λ x _=>rfl) (by omega) (by omega)];simp[an3];rcases Wn (λ x:bD=>ByteArray.toList x.name==ByteArray.toList e.key) ts[i].rows with ⟨j,hj,g1,g2⟩|⟨g1,g2⟩;rw[g1,g2];have d:decide ((j:Nat)>=0)=true:=by simp
 simp[bG hj];rw[g1,g2];rfl;rw[h1,h2];rfl
theorem fD{α:Type}{c:Bool}{x y:Option α}(hx:∃r,x=some r)(hy:∃r,y=some r):∃r,(bif c then x else y)=some r:=by cases c<;>assumption
theorem Ye(a b:Int):∃r,wh a b=some r:=by
 simp[wh];cases h:(b==0)with
 |true=>exact⟨_,rfl⟩
 |false=>
  have:(b !=0)=true:=by simp[bne,h]
  simp[this];cases (Int.tmod a b !=0)<;>cases (decide (Int.tmod a b<0)==decide (b<0))<;>exact⟨_,rfl⟩
theorem Wy b:∃r,yI b=some r:=fD ⟨_,rfl⟩ ⟨_,rfl⟩
theorem sH{α β:Type}{x:Option α}{f:α->Option β}(hx:∃r,x=some r)(hf:∀r,∃s,f r=some s):∃s,x.bind f=some s:=by obtain⟨r,rfl⟩:=hx;exact hf r
theorem adS(op a b:Int):∃r,Jm op a b=some r:=by
 have q:=Ye a b;have t:=λc=>Wy c;unfold Jm
 repeat' first
  |exact⟨_,rfl⟩
  |exact q
  |exact t _
  |apply fD
  |(refine sH ?_ λr=>?_)
theorem Ik(h:0<n):cx 0 n=true:=by simp[cx];omega
theorem adT(h:1<n):cx 1 n=true:=by simp[cx];omega
theorem ak0(h:2<n):cx 2 n=true:=by simp[cx];omega
theorem Nl{α:Type}{l:List α}(h:0<l.length):b7 l ((0:Nat)+0)=some l[0]:=bI (i:=0) h
theorem ahK{α:Type}{l:List α}(h:1<l.length):b7 l ((0:Nat)+1)=some l[1]:=bI (i:=1) h
theorem ami{α:Type}{l:List α}(h:2<l.length):b7 l ((0:Nat)+2)=some l[2]:=bI (i:=2) h
theorem Yf{l:List ByteArray}{s:ByteArray}(hl:l.length<=4000000)(hn:4000002<=n):∃r,gm n l s=some r:=by
 obtain⟨o,h,_⟩:=fC (step:=nL l s) (λ i v=>v=i/\i<=l.length) (λ _=>True) l.length (λ k v h=>h.2) (by
  rintro i v ⟨rfl,hi⟩;by_cases hlt:i<l.length;simp only[nL,show decide ((i:Int)<l.length)=true from by simp;omega,aj,bG hlt,ai,aY i];cases (ByteArray.toList s==ByteArray.toList l[i])with
  |true=>exact .inr ⟨_,rfl,trivial⟩
  |false=>exact .inl ⟨_,rfl,rfl,hlt⟩
  simp only[nL,show decide ((i:Int)<l.length)=false from by simp;omega,ax];exact .inr ⟨_,rfl,trivial⟩) n 0 0 ⟨rfl,Nat.zero_le _⟩ (by omega)
 simp only[gm,q9,h];cases o with
 |inl u=>cases u;simp only[jB,ai];exact⟨_,rfl⟩
 |inr r=>simp only[p9,ai];exact⟨_,rfl⟩
theorem aiZ{op a:Int}(h0:(op==0)=false)(h1:(op==1)=false)(h2:(op==2)=false)(h3:(op==3)=false)(h9:(op==9)=false)(PP:(op==15)=false)(h16:(op==16)=false)(h:yH op=some (a,true)):a=2:=by
 simp[yH,h0,h1,h2,h3,h9,PP,h16]at h;cases hd:decide (op>=0)with
 |true=>rw[hd]at h;simp at h;exact h.1.symm
 |false=>rw[hd]at h;simp at h
section
variable {n:Nat} {a0:List gP} {ts:List cO} {a2:List fJ} {a3:List bP} {a4:List ji} {a5:List ic} {a6:List dw} {a7:Int} {zs:List ByteArray}
theorem Wz(hn:4000002<=n)(ht:Sp ts)(hz:zs.length<=4000000):∀(m:Nat)(e:bU)(kn:List (ByteArray×Int)),VR m e->(toE e).wt<=4000000->∃v,bR n m a0 ts a2 a3 a4 a5 a6 a7 zs e kn=some (v,kn)
 | 0,_,_,h,_=>h.elim
 |m+1,e,kn,⟨ha,hr⟩,hw=>by
  have hla:=abm e;have hmx:maxLen=9223372036854775807:=rfl;show ∃v,fT n (bR n m) a0 ts a2 a3 a4 a5 a6 a7 zs e kn=some (v,kn)
  obtain⟨o,h1,l,rfl,hl⟩:=fC (step:=fH n (bR n m) a0 ts a2 a3 a4 a5 a6 a7 zs e) (λ i (v:Int×List (ByteArray×Int)×List Int)=>∃l,v=((i:Int),kn,l)/\i<=e.args.length/\l.length=i)
   (λ o=>∃l,o=(kn,l)/\l.length=e.args.length) e.args.length (λ k v ⟨_,_,h,_⟩=>h) (by
   rintro i v ⟨l,rfl,hi,hl⟩;by_cases hlt:i<e.args.length;left;have hwx:=af9 (getElem_mem hlt);obtain⟨x,hx⟩:=Wz hn ht hz m e.args[i] kn (hr _ (getElem_mem hlt)) (by omega);have key:∃b,((bif (e.op==(16:Int))then(bif (decide ((i:Int)>(0:Int)))then(ck (cx 0 l.length) ((b7 l ((0:Nat)+0:Int)).bind λx2=>some (!((x2 !=(0:Int))==((i:Int)==1)))))else some false)else some false):Option (Bool))=some b:=(by refine fD ?_ ⟨_,rfl⟩;by_cases h0:(i:Int)>0;simp only[h0,decide_true,aj,Ik (show 0<l.length by omega),Nl (show 0<l.length by omega),ai];exact⟨_,rfl⟩;simp only[h0,decide_false,ax];exact⟨_,rfl⟩);obtain⟨b,hb⟩:=key;have hap:∀z:Int,bL l.length l.length (sub [z] 0 1).length 1 8=true:=λz=>(by simp[bL,sub];omega);simp only[fH,show decide ((i:Int)<e.args.length)=true from by simp;omega,aj,bG hlt,ai,hb,Cz,hx,hap,gJ,aN,aY i];cases b with
   |true|false=>exact⟨_,rfl,_,rfl,hlt,by simp[sub,hl]⟩
   right;refine⟨(kn,l),?_,l,rfl,by omega⟩;simp only[fH,show decide ((i:Int)<e.args.length)=false from by simp;omega,ax,aN,aj]) n 0 (0,kn,[]) ⟨[],rfl,Nat.zero_le _,rfl⟩ (by omega)
  simp only[fT,length_nil,aN,aj,h1,ai,Cz,aiY hn ht];cases h0:(e.op==0)with
  |true=>exact⟨_,rfl⟩
  |false=>
  cases h1:(e.op==1)with
  |true=>exact⟨_,rfl⟩
  |false=>
  cases h2:(e.op==2)with
  |true=>exact⟨_,rfl⟩
  |false=>
  cases h3:(e.op==3)with
  |true=>
   have⟨r,hr⟩:=Yf (n:=n) (l:=zs) (s:=e.s) hz hn;have⟨r2,hr2⟩:=Wy r;simp only[ax,aj,hr,hr2,ai];exact⟨_,rfl⟩
  |false=>
  cases h9:(e.op==9)with
  |true=>
   have e9:e.op=9:=(by simpa using h9);rw[e9]at ha;have:l.length=1:=(by have h:some (1,true)=some ((e.args.length:Int),true):=ha;simp at h;omega);simp only[ax,aj,Ik (show 0<l.length by omega),Nl (show 0<l.length by omega),ai];exact⟨_,rfl⟩
  |false=>
  cases PP:(e.op==15)with
  |true=>
   have e15:e.op=15:=(by simpa using PP);rw[e15]at ha;have:l.length=1:=(by have h:some (1,true)=some ((e.args.length:Int),true):=ha;simp at h;omega);obtain⟨r2,hr2⟩:=Wy (l[0]'(by omega)==0);simp only[ax,aj,Ik (show 0<l.length by omega),Nl (show 0<l.length by omega),ai,hr2];exact⟨_,rfl⟩
  |false=>
  cases h16:(e.op==16)with
  |true=>
   have e16:e.op=16:=(by simpa using h16);rw[e16]at ha;have:l.length=3:=(by have h:some (3,true)=some ((e.args.length:Int),true):=ha;simp at h;omega);simp only[ax,aj,Ik (show 0<l.length by omega),Nl (show 0<l.length by omega),adT (show 1<l.length by omega),ahK (show 1<l.length by omega),ak0 (show 2<l.length by omega),ami (show 2<l.length by omega),ai];cases (l[0]'(by omega) !=0)<;>exact⟨_,rfl⟩
  |false=>
   have:l.length=2:=(by have:=aiZ h0 h1 h2 h3 h9 PP h16 ha;omega);obtain⟨r,hr⟩:=adS e.op (l[0]'(by omega)) (l[1]'(by omega));simp only[ax,aj,Ik (show 0<l.length by omega),Nl (show 0<l.length by omega),adT (show 1<l.length by omega),ahK (show 1<l.length by omega),ai,hr];exact⟨_,rfl⟩
end
theorem agb{ms:List bD}(h:ms.length<=4000000)(hn:4000002<=n):∃o,iter (je n ms) n (0,[],[])=some o:=by obtain⟨o,h,_⟩:=fC (step:=je n ms) (λ i (v:Int×List (ByteArray×Int)×List (ByteArray×Bool))=>∃a b,v=((i:Int),a,b)/\i<=ms.length) (λ _=>True) ms.length (λ k v ⟨_,_,_,h⟩=>h) (by rintro i v ⟨a,b,rfl,hi⟩;by_cases hlt:i<ms.length;left;simp only[je,show decide ((i:Int)<ms.length)=true from by simp;omega,aj,bG hlt,ai,aY i];cases (!((gZ Gb.fW ms[i].name b).getD false))<;>exact⟨_,rfl,_,_,rfl,hlt⟩;right;simp only[je,show decide ((i:Int)<ms.length)=false from by simp;omega,ax];exact⟨_,rfl,trivial⟩) n 0 _ ⟨[],[],rfl,Nat.zero_le _⟩ (by omega);exact⟨o,h⟩
structure agc(p:cB):Prop where
 defs:gp p.defs
 tabs:Sp p.tables
theorem abn(a b:ByteArray):Gb.fW a b=true↔a=b:=by unfold Gb.fW;rw[beq_iff_eq,ByteArray.toList_eq,ByteArray.toList_eq];exact⟨λ h=>ByteArray.ext (Array.toList_inj.1 h),λh=>by rw[h]⟩
theorem adU{V:Type}(k k':ByteArray)(v:V)(h:k≠k'):∀l:List (ByteArray×V),gZ Gb.fW k (Fj Gb.fW k' v l)=gZ Gb.fW k l
 |[]=>by
  have:Gb.fW k k'=false:=by rw[Bool.eq_false_iff];exact λe=>h ((abn _ _).1 e)
  simp[Fj,gZ,this]
 |p::l=>by
  have e:Gb.fW k k'=false:=by rw[Bool.eq_false_iff];exact λe=>h ((abn _ _).1 e)
  have ih:=adU k k' v h l;simp[Fj];cases c:Gb.fW k' p.1 with
  |true=>
   have:=(abn _ _).1 c;subst this;simp[gZ,e]
  |false=>simp[gZ,ih]
theorem KS{p:cB}{ms:List bD}{zs:List ByteArray}(hp:agc p)(hm:ms.length<=4000000)(hz:zs.length<=4000000)(hn:5000003<=n)(hn2:n<=9223372036854775000):∃kn out,mJ n p ms zs=some (p.defs,p.tables,p.zones,p.rules,p.caps,p.views,p.vi,p.hours,zs,kn,out)/\out.length=p.defs.length/\∀w,iter (je n ms) n (0,[],[])=some w->∀s,(gZ Gb.fW s w.2).getD false=true->gZ Gb.fW s kn=gZ Gb.fW s w.1:=by
 obtain⟨⟨w1,w2⟩,hs1⟩:=agb (n:=n) hm (by omega);have⟨r,hr,hrl,hrr,_⟩:=RS (n:=n) hp.defs hn;have hl:=hp.defs.len;have hmx:maxLen=9223372036854775807:=rfl;have hmk:wC p.defs.length 8=true:=by simp[wC];omega
 simp only[mJ,hs1,ai,Int.le_refl,decide_true,Bool.true_and,show decide (0<=p.defs.length)=true from by simp,hmk,aj,hr];cases hb:(r.2.2 !=0)with
 |true=>
  simp only[aj,Int.toNat_natCast,List.length_replicate,aN];exact⟨_,_,rfl,by simp,λw hw s _=>by cases hw;rfl⟩
 |false=>
  obtain⟨o,h1,kn,out,rfl,h2,h3⟩:=fC (step:=iq n p zs w2 r) (λ i (v:Int×List (ByteArray×Int)×List Int)=>∃kn out,v=((i:Int),kn,out)/\i<=r.1.length/\out.length=p.defs.length/\∀s,(gZ Gb.fW s w2).getD false=true->gZ Gb.fW s kn=gZ Gb.fW s w1)
   (λ o=>∃kn out,o=(kn,out)/\out.length=p.defs.length/\∀s,(gZ Gb.fW s w2).getD false=true->gZ Gb.fW s kn=gZ Gb.fW s w1) r.1.length (λ k v ⟨_,_,_,h,_⟩=>h) (by
   rintro i v ⟨kn,out,rfl,hi,hol,hK⟩;by_cases hlt:i<r.1.length;left;have hk:=hrr r.1[i] (getElem_mem hlt);obtain⟨k,hk2⟩:=Int.eq_ofNat_of_zero_le hk.1;have hkd:k<p.defs.length:=(by omega);have hko:k<out.length:=(by omega);have hbw:=hp.defs.body (getElem_mem hkd);obtain⟨b,hb1,hb2⟩:=Rn (n:=n) (by omega) hn2 hbw;simp only[iq,show decide ((i:Int)<r.1.length)=true from by simp;omega,aj,aW hlt,bI hlt,ai,hk2,bG hkd,hb1,Int.toNat_natCast,aW hkd,bI hko,aY i,show(((0:Nat):Int)+k).toNat=k by omega];have step2:∀(Pr:List (ByteArray×Int)) out',out'.length=p.defs.length->(∀ s,(gZ Gb.fW s w2).getD false=true->gZ Gb.fW s Pr=gZ Gb.fW s w1)->∃HU,((bif (!((gZ Gb.fW p.defs[k].name w2).getD false))then(b7 out' ((0:Nat)+k:Int)).bind λx5=>some ((Fj Gb.fW p.defs[k].name x5 Pr),out')else some (Pr,out')):Option ((List (ByteArray×Int))×(List Int)))=some (HU,out')/\∀s,(gZ Gb.fW s w2).getD false=true->gZ Gb.fW s HU=gZ Gb.fW s w1:=by
    intro Pr out' ho hK;cases hc:(gZ Gb.fW p.defs[k].name w2).getD false with
    |false=>
     simp only[Bool.not_false,aj,bI (show k<out'.length by omega),ai];exact⟨_,rfl,λs hs=>by rw[adU _ _ _ (λ e=>by rw[e,hc]at hs;cases hs)];exact hK s hs⟩
    |true=>exact⟨_,rfl,hK⟩
   cases b with
   |true=>
    obtain⟨v,hv⟩:=Wz (n:=n) (a0:=p.defs) (a2:=p.zones) (a3:=p.rules) (a4:=p.caps) (a5:=p.views) (a6:=p.vi) (a7:=p.hours) (by omega) hp.tabs hz n _ kn (hb2 rfl) hbw;simp only[gH,hv,aj,ai];obtain⟨kn2,h2,h3⟩:=step2 kn (out.set k v) (by simp[hol]) hK;rw[h2];exact⟨_,rfl,_,_,rfl,hlt,by simp[hol],h3⟩
   |false=>
    simp only[ax,ai];have⟨kn2,h2,h3⟩:=step2 kn out hol hK;rw[h2];exact⟨_,rfl,_,_,rfl,hlt,hol,h3⟩
   right;simp only[iq,show decide ((i:Int)<r.1.length)=false from by simp;omega,ax];exact⟨_,rfl,_,_,rfl,hol,hK⟩) n 0 (0,w1,List.replicate p.defs.length 0) ⟨_,_,rfl,Nat.zero_le _,by simp,λ_ _=>rfl⟩ (by omega)
  simp only[ax,Int.toNat_natCast,h1,ai,h2,aN,aj];exact⟨_,_,rfl,h2,λw hw=>by cases hw;exact h3⟩
theorem all_eq{d:aG}(h:AR d)(hn:1001<=n):vT n d=some (cj d):=by simp[vT,Ww h hn]
theorem Yg(a b:ByteArray)(h:a.size<=4000000):∃r,strings_Contains a b=some r:=by simp only[strings_Contains,Nat.ble_eq_true_of_le h,aj];exact⟨_,rfl⟩
theorem Ro c:∃b,Ee c=some b:=fD ⟨_,rfl⟩ ⟨_,rfl⟩
theorem agf c:∃b,Pg c=some b:=fD ⟨_,rfl⟩ ⟨_,rfl⟩
theorem ai0 c:∃b,zV c=some b:=sH (Ro c) λ_=>fD ⟨_,rfl⟩ (sH (agf c) λ_=>⟨_,rfl⟩)
theorem adV{s:ByteArray}{i:Nat}(h:i<s.size):∃c,QR s i=some c:=by simp only[QR,show decide (0<=i)=true from by simp,aj,Int.toNat_natCast];rw[getElem?_pos s i h];exact⟨_,rfl⟩
theorem ai1{s:ByteArray}{φ:(Int×Unit)->Option Bool}(h:∀c,∃b,φ (c,())=some b)(hs:s.size<=4000000)(hn:4000002<=n):∃r,MI n s φ=some r:=by
 obtain⟨o,h1,_⟩:=fC (step:=zU s φ) (λ i v=>v=i/\i<=s.size) (λ _=>True) s.size (λ k v h=>h.2) (by
  rintro i v ⟨rfl,hi⟩;by_cases hlt:i<s.size;have⟨c,hc⟩:=adV hlt;have⟨b,hb⟩:=h c;simp only[zU,show decide ((i:Int)<s.size)=true from by simp;omega,aj,hc,ai,hb,aY i];cases b with
  |true=>exact .inl ⟨_,rfl,rfl,hlt⟩
  |false=>exact .inr ⟨_,rfl,trivial⟩
  simp only[zU,show decide ((i:Int)<s.size)=false from by simp;omega,ax,ai];exact .inr ⟨_,rfl,trivial⟩) n 0 0 ⟨rfl,Nat.zero_le _⟩ (by omega)
 simp only[MI,h1,ai];exact⟨_,rfl⟩
theorem ai2(s:ByteArray)(hn:4000002<=n):∃b,MJ n s=some b/\(b=true->s.size<=20):=by
 simp only[MJ];cases h0:(ByteArray.toList s==ByteArray.toList (⟨#[]⟩))with
 |true=>exact⟨false,by simp,λh=>(by cases h)⟩
 |false=>
  have hs:0<s.size:=by refine Nat.pos_of_ne_zero λh=>?_;have:s=⟨#[]⟩:=(by obtain⟨⟨l⟩⟩:=s;have:l.length=0:=h;rw[List.eq_nil_of_length_eq_zero this]);rw[this]at h0;simp at h0
  have⟨c,hc⟩:=adV hs;have hc':QR s 0=some c:=hc;have⟨b,hb⟩:=Ro c;simp only[ax,hc',ai,hb];cases b with
  |false=>exact⟨false,by simp,λh=>(by cases h)⟩
  |true=>
   simp only[Bool.not_true,ax,ai];by_cases h20:(s.size:Int)>20;exact⟨false,by simp[h20],λh=>(by cases h)⟩;obtain⟨r,hr⟩:=ai1 (n:=n) (s:=s) (φ:=λ(y1:Int×Unit)=>zV y1.1) (λ c=>ai0 c) (by omega) hn;simp only[h20,decide_false,ax,hr,ai];exact⟨_,rfl,λ_=>by omega⟩
theorem ai3(s:ByteArray)(hn:4000002<=n):∃b,vU n s=some b:=by
 have⟨b,hb,h20⟩:=ai2 (n:=n) s hn;simp only[vU,hb,ai];cases b with
 |false=>exact⟨_,rfl⟩
 |true=>
  have hs:=h20 rfl;have hmx:maxLen=9223372036854775807:=rfl;have c1:UG (⟨#[32]⟩) s=true:=by have:(⟨#[32]⟩:ByteArray).size=1:=rfl;simp[UG];omega
  have c2:UG ((⟨#[32]⟩)++s) (⟨#[32]⟩)=true:=by have h1:(⟨#[32]⟩:ByteArray).size=1:=rfl;simp[UG];omega
  simp only[aj,c1,c2];refine sH (Yg _ _ (Nat.le_of_ble_eq_true ?_)) λ_=>⟨_,rfl⟩
  kernel_rfl
theorem ai4(a b:yp):∃r,wY a b=some r:=by unfold wY;rw[yN];exact fD (fD ⟨_,rfl⟩ ⟨_,rfl⟩) ⟨_,rfl⟩
theorem gF{l:List aC}{φ:(aC×Unit)->Option Bool}(p:aC->Bool)(h:∀x∈l,φ (x,())=some (p x))(hl:l.length<1099511627776)(hn:l.length<n):gu n l φ=some (l.any p):=by have:qx n l φ=some (Az p l):=iT p h hl hn;simp[gu,this,wU]
theorem xG{l:List aC}{φ:(aC×Unit)->Option Bool}(h:∀x∈l,∃b,φ (x,())=some b)(hl:l.length<1099511627776)(hn:l.length<n):gu n l φ=some (l.any λx=>(φ (x,())).getD false):=
 gF _ (λ x hx=>by have⟨b,hb⟩:=h x hx;rw[hb];rfl) hl hn
def AE(d:aG):Prop:=∀p∈d.phases,p.gives.length<=1000
theorem agh{l:List aC}(hl:l.length<=1000000)(hn:4000002<=n):iter (lD n l) n 0=some (.inr false)\/(iter (lD n l) n 0=some (.inl ())/\∀v∈l,okV v=true):=by
 obtain⟨o,h1,h2⟩:=fC (step:=lD n l) (λ i v=>v=i/\i<=l.length/\∀x∈l.take i,okV x=true) (λ o=>o=.inr false\/(o=.inl ()/\∀v∈l,okV v=true)) l.length (λ k v h=>h.2.1) (by
  rintro i v ⟨rfl,hi,hall⟩;by_cases hlt:i<l.length;simp only[lD,show decide ((i:Int)<l.length)=true from by simp;omega,aj,aW hlt,bI hlt,ai,pU,aY i];cases hv:okV l[i]with
  |false=>exact .inr ⟨_,by simp only[Bool.not_false,aj,ai];rfl,.inl rfl⟩
  |true=>
   have hsub:(sub l 0 i).length=i:=(by simp[sub];omega);have hc:=xG (n:=n) (l:=sub l 0 i) (φ:=λ(y1:aC×Unit)=>qZ y1.1 l[i]) (λ x _=>sH (ai4 _ _) λ_=>⟨_,rfl⟩) (by omega) (by omega);simp[xR (show 0<=0 by omega) (show (0:Int)<=i by omega) (show (i:Int)<=l.length by omega),qw hsub,hc];cases ((sub l 0 i).any λx=>((λ (y1:aC×Unit)=>qZ y1.1 l[i]) (x,())).getD false)with
   |true=>exact .inr ⟨_,rfl,.inl rfl⟩
   |false=>
    refine .inl ⟨_,rfl,rfl,hlt,λx hx=>?_⟩;rw[List.take_add_one,dJ hlt,bK]at hx;rcases hx with hx|hx;exact hall x hx;simp at hx;subst hx;exact hv
  refine .inr ⟨.inl (),?_,.inr ⟨rfl,λv hv=>hall v (by rw[take_of_length_le (by omega)];exact hv)⟩⟩;simp only[lD,show decide ((i:Int)<l.length)=false from by simp;omega,ax]) n 0 0 ⟨rfl,Nat.zero_le _,by simp⟩ (by omega)
 rcases h2 with rfl|⟨rfl,h2⟩;exact .inl h1;exact .inr ⟨h1,h2⟩
theorem agi{p:eH}(hp:p.gives.length<=1000)(hn:4000002<=n):iter (lF n p) n (0,[])=some (.inl ())\/iter (lF n p) n (0,[])=some (.inr (.inr (.inr false))):=by
 obtain⟨o,h1,h2⟩:=fC (step:=lF n p) (λ i (v:Int×List (ByteArray×Bool))=>∃m,v=((i:Int),m)/\i<=p.gives.length) (λ o=>o=.inl ()\/o=.inr (.inr (.inr false))) p.gives.length (λ k v ⟨_,_,h⟩=>h) (by
  rintro i v ⟨m,rfl,hi⟩;by_cases hlt:i<p.gives.length;have key:∃b,((bif ((gZ Gb.fW p.gives[i].name m).getD false)then some true else(vU n p.gives[i].name).bind λr4=>(bif (!r4)then some true else(bif (decide (p.gives[i].n<0))then some true else some (decide (p.gives[i].n>1073741824))))):Option (Bool))=some b:=
   fD ⟨_,rfl⟩ (sH (ai3 _ hn) λ_=>fD ⟨_,rfl⟩ (fD ⟨_,rfl⟩ ⟨_,rfl⟩))
  obtain⟨b,hb⟩:=key;simp only[lF,show decide ((i:Int)<p.gives.length)=true from by simp;omega,aj,bG hlt,ai,hb,aY i];cases b with
  |true=>exact .inr ⟨_,rfl,.inr rfl⟩
  |false=>exact .inl ⟨_,rfl,_,rfl,hlt⟩
  simp only[lF,show decide ((i:Int)<p.gives.length)=false from by simp;omega,ax];exact .inr ⟨_,rfl,.inl rfl⟩) n 0 _ ⟨[],rfl,Nat.zero_le _⟩ (by omega)
 rcases h2 with rfl|rfl;exact .inl h1;exact .inr h1
theorem agj{d:aG}(hd:AR d)(hg:AE d)(hn:4000002<=n):iter (lG n d) n 0=some (.inl ())\/iter (lG n d) n 0=some (.inr false):=by
 have hd1:=hd.1;obtain⟨o,h1,h2⟩:=fC (step:=lG n d) (λ i v=>v=i/\i<=d.phases.length) (λ o=>o=.inl ()\/o=.inr false) d.phases.length (λ k v h=>h.2) (by
  rintro i v ⟨rfl,hi⟩;by_cases hlt:i<d.phases.length;simp only[lG,show decide ((i:Int)<d.phases.length)=true from by simp;omega,aj,bG hlt,ai,aY i];rcases agi (n:=n) (hg _ (getElem_mem hlt)) hn with h|h;simp[h];cases decide ((d.phases[i].gives.length:Int)>30)with
  |true=>exact .inr ⟨_,rfl,.inr rfl⟩
  |false=>exact .inl ⟨_,rfl,rfl,hlt⟩
  simp only[h,p9];exact .inr ⟨_,rfl,.inr rfl⟩;simp only[lG,show decide ((i:Int)<d.phases.length)=false from by simp;omega,ax];exact .inr ⟨_,rfl,.inl rfl⟩) n 0 0 ⟨rfl,Nat.zero_le _⟩ (by omega)
 rcases h2 with rfl|rfl;exact .inl h1;exact .inr h1
theorem xV{d:aG}(hd:AR d):(cj d).length<=1000000:=by have:=ey hd.2;have:=hd.1;unfold cj;omega
theorem ahL{d:aG}(hd:AR d)(hg:AE d)(hn:4000002<=n):∃b,lQ n d=some b/\(b=true->∀v∈cj d,okV v=true):=by
 simp only[lQ,all_eq hd (show 1001<=n by omega),ai];have key:∀c1 c2 c3 c4 c5 c6:Bool,∃b,((bif c1 then some true else(bif c2 then some true else(bif c3 then some true else(bif c4 then some true else(bif c5 then some true else some c6))))):Option Bool)=some b:=by intro c1 c2 c3 c4 c5 c6;exact fD ⟨_,rfl⟩ (fD ⟨_,rfl⟩ (fD ⟨_,rfl⟩ (fD ⟨_,rfl⟩ (fD ⟨_,rfl⟩ ⟨_,rfl⟩))))
 have⟨b,hb⟩:=key (decide (d.lot<0)) (decide (d.lot>1073741824)) (decide ((d.phases.length:Int)<1)) (decide ((d.phases.length:Int)>8)) (decide (((cj d).length:Int)<1)) (decide (((cj d).length:Int)>40));rw[hb];cases b with
 |true=>exact⟨false,rfl,λh=>(by cases h)⟩
 |false=>
  simp only[ai,ax];rcases agh (n:=n) (xV hd) hn with h|⟨h,hall⟩;simp only[h,p9];exact⟨false,rfl,λh=>(by cases h)⟩;simp only[h,jB];rcases agj (n:=n) hd hg hn with h2|h2;simp only[h2,jB];exact⟨true,rfl,λ_=>hall⟩;simp only[h2,p9];exact⟨false,rfl,λh=>(by cases h)⟩
theorem EH{l:List ji}{φ:(ji×Unit)->Option Bool}(p:ji->Bool)(h:∀x∈l,φ (x,())=some (p x))(hl:l.length<1099511627776)(hn:l.length<n):mX n l φ=some (l.any p):=by have:uX n l φ=some (Az p l):=iT p h hl hn;simp[mX,this,wU]
theorem ak1{lot:jN}{l:List aC}(ha:lot.area.length<=900)(hv:∀v∈l,okV v=true)(hl:l.length<=1000000)(hn:4000002<=n):iter (kE n lot l) n 0=some (.inl ())\/iter (kE n lot l) n 0=some (.inr false):=by
 obtain⟨o,h1,h2⟩:=fC (step:=kE n lot l) (λ i v=>v=i/\i<=l.length) (λ o=>o=.inl ()\/o=.inr false) l.length (λ k v h=>h.2) (by
  rintro i v ⟨rfl,hi⟩;by_cases hlt:i<l.length;have hb:=Cw (hv _ (getElem_mem hlt));have hcl:=abe (keep:=λp q=>p&&q) lot.area [dU l[i]];have hc:=abd (n:=n) (a:=lot.area) (b:=[dU l[i]]) (by omega) (by simp) (by omega) (by simp;omega) (by omega);have hA:=Wi (n:=n) (a:=(um (λ p q=>p&&q) lot.area [dU l[i]]).1) (by omega) (by omega);have hr:=Cv hb;simp[dU]at hc hA hr;simp only[kE,show decide ((i:Int)<l.length)=true from by simp;omega,aj,aW hlt,bI hlt,ai,show ∀r:au,sub [r] 0 1=[r]from λ_=>rfl,List.length_singleton,aN,hc,hA,hr,aY i];have key:∀c x:Bool,∃b,((bif c then some true else some x):Option Bool)=some b:=λc x=>fD ⟨_,rfl⟩ ⟨_,rfl⟩;obtain⟨b,hb2⟩:=key ((um (λ p q=>p&&q) lot.area [⟨l[i].bm,l[i].bz,l[i].bk,l[i].bx⟩]).2 !=0) (decide ((bif cL (um (λ p q=>p&&q) lot.area [⟨l[i].bm,l[i].bz,l[i].bk,l[i].bx⟩]).1 then KR (um (λ p q=>p&&q) lot.area [⟨l[i].bm,l[i].bz,l[i].bk,l[i].bx⟩]).1 else 0)<N0 ⟨l[i].bm,l[i].bz,l[i].bk,l[i].bx⟩));rw[hb2];cases b with
  |true=>exact .inr ⟨_,rfl,.inr rfl⟩
  |false=>exact .inl ⟨_,rfl,rfl,hlt⟩
  simp only[kE,show decide ((i:Int)<l.length)=false from by simp;omega,ax];exact .inr ⟨_,rfl,.inl rfl⟩) n 0 0 ⟨rfl,Nat.zero_le _⟩ (by omega)
 rcases h2 with rfl|rfl;exact .inl h1;exact .inr h1
theorem ak2{p:cB}{ph:eH}(hc:p.caps.length<=4000000)(hp:ph.gives.length<=1000)(hn:4000002<=n):iter (kF n p ph) n 0=some (.inl ())\/iter (kF n p ph) n 0=some (.inr (.inr (.inr false))):=by
 obtain⟨o,h1,h2⟩:=fC (step:=kF n p ph) (λ i v=>v=i/\i<=ph.gives.length) (λ o=>o=.inl ()\/o=.inr (.inr (.inr false))) ph.gives.length (λ k v h=>h.2) (by
  rintro i v ⟨rfl,hi⟩;by_cases hlt:i<ph.gives.length;simp only[kF,show decide ((i:Int)<ph.gives.length)=true from by simp;omega,aj,bG hlt,ai,EH (n:=n) (l:=p.caps) (φ:=λ(y1:ji×Unit)=>uW y1.1 ph.gives[i]) (λ c=>ByteArray.toList c.name==ByteArray.toList ph.gives[i].name) (λ _ _=>rfl) (by omega) (by omega),aY i];cases (p.caps.any λc=>ByteArray.toList c.name==ByteArray.toList ph.gives[i].name)with
  |false=>exact .inr ⟨_,rfl,.inr rfl⟩
  |true=>exact .inl ⟨_,rfl,rfl,hlt⟩
  simp only[kF,show decide ((i:Int)<ph.gives.length)=false from by simp;omega,ax];exact .inr ⟨_,rfl,.inl rfl⟩) n 0 0 ⟨rfl,Nat.zero_le _⟩ (by omega)
 rcases h2 with rfl|rfl;exact .inl h1;exact .inr h1
theorem ak3{p:cB}{d:aG}(hc:p.caps.length<=4000000)(hd:AR d)(hg:AE d)(hn:4000002<=n):iter (kG n p d) n 0=some (.inl ())\/iter (kG n p d) n 0=some (.inr false):=by have hd1:=hd.1;obtain⟨o,h1,h2⟩:=fC (step:=kG n p d) (λ i v=>v=i/\i<=d.phases.length) (λ o=>o=.inl ()\/o=.inr false) d.phases.length (λ k v h=>h.2) (by rintro i v ⟨rfl,hi⟩;by_cases hlt:i<d.phases.length;simp only[kG,show decide ((i:Int)<d.phases.length)=true from by simp;omega,aj,bG hlt,ai,aY i];rcases ak2 (n:=n) hc (hg _ (getElem_mem hlt)) hn with h|h;simp only[h,jB];exact .inl ⟨_,rfl,rfl,hlt⟩;simp only[h,p9];exact .inr ⟨_,rfl,.inr rfl⟩;simp only[kG,show decide ((i:Int)<d.phases.length)=false from by simp;omega,ax];exact .inr ⟨_,rfl,.inl rfl⟩) n 0 0 ⟨rfl,Nat.zero_le _⟩ (by omega);rcases h2 with rfl|rfl;exact .inl h1;exact .inr h1
theorem ai5{p:cB}{lot:jN}{d:aG}(hc:p.caps.length<=4000000)(ha:lot.area.length<=900)(hd:AR d)(hg:AE d)(hn:4000002<=n):∃b,kC n p lot d=some b/\(b=true->∀v∈cj d,okV v=true):=by
 have⟨b,hb,hv⟩:=ahL (n:=n) hd hg hn;simp only[kC,hb,ai];cases b with
 |false=>exact⟨false,by simp,λh=>(by cases h)⟩
 |true=>
  simp only[Bool.not_true,ax,l7 (n:=n) (l:=lot.area) (by omega) (by omega) (by omega),ai];cases (lot.id !=d.lot)with
  |true=>exact⟨false,by simp,λh=>(by cases h)⟩
  |false=>
   cases cL lot.area with
   |false=>exact⟨false,by simp,λh=>(by cases h)⟩
   |true=>
    simp only[Bool.not_true,ax,ai,all_eq hd (show 1001<=n by omega)];rcases ak1 (n:=n) ha (hv rfl) (xV hd) hn with h|h;simp only[h,jB];rcases ak3 (n:=n) hc hd hg hn with h2|h2;simp only[h2,jB];exact⟨true,rfl,λ_=>hv rfl⟩;simp only[h2,p9];exact⟨false,rfl,λh=>(by cases h)⟩;simp only[h,p9];exact⟨false,rfl,λh=>(by cases h)⟩
theorem amj{p:cB}{ms:List bD}{zs:List ByteArray}{e:bU}(hp:agc p)(hm:ms.length<=4000000)(hz:zs.length<=4000000)(he:(toE e).wt<=4000000)(hn:5000003<=n)(hn2:n<=9223372036854775000):∃v,Aa n p ms zs e=some v:=by
 obtain⟨b,hb,hv⟩:=Rn (n:=n) (by omega) hn2 he;simp[Aa,Cz,hb];cases b with
 |false=>exact⟨_,rfl⟩
 |true=>
  have⟨kn,out,h1,_⟩:=KS (n:=n) hp hm hz hn hn2;obtain⟨v,h2⟩:=Wz (n:=n) (a0:=p.defs) (a2:=p.zones) (a3:=p.rules) (a4:=p.caps) (a5:=p.views) (a6:=p.vi) (a7:=p.hours) (by omega) hp.tabs hz n e kn (hv rfl) he;simp only[Bool.not_true,ax,h1,ai,gH,h2];exact⟨_,rfl⟩
section
variable {n:Nat} {d:List gP} {ts:List cO} {z z':List fJ} {r r':List bP} {c c':List ji} {v v':List ic} {su sm:List dw} {h h':Int} {zs:List ByteArray}
theorem Il:∀(m:Nat)(e:bU)(kn:List (ByteArray×Int)),bR n m d ts z r c v su h zs e kn=bR n m d ts z' r' c' v' sm h' zs e kn
 | 0,_,_=>rfl
 |m+1,e,kn=>by
  have ih:=Il m;have hs:fH n (bR n m) d ts z r c v su h zs e=fH n (bR n m) d ts z' r' c' v' sm h' zs e:=by funext ⟨v1,v2,v3⟩;simp only[fH,ih]
  have hr:∀w,jG n d ts z r c v su h zs e w=jG n d ts z' r' c' v' sm h' zs e w:=λ_=>rfl;show fT n (bR n m) d ts z r c v su h zs e kn=fT n (bR n m) d ts z' r' c' v' sm h' zs e kn;simp only[fT,hs,Cz,hr]
theorem agk{ms:List bD}:(mJ n (cB.mk d ts z r c v su h) ms zs).map (λ q=>q.2.2.2.2.2.2.2.2.2)=(mJ n (cB.mk d ts z' r' c' v' sm h') ms zs).map (λ q=>q.2.2.2.2.2.2.2.2.2):=by
 have hs:∀w2 r1,iq n (cB.mk d ts z r c v su h) zs w2 r1=iq n (cB.mk d ts z' r' c' v' sm h') zs w2 r1:=by intro w2 r1;funext ⟨v6,v7,v8⟩;have hv:∀e kn,gH n d ts z r c v su h zs e kn=gH n d ts z' r' c' v' sm h' zs e kn:=λe kn=>Il n e kn;simp only[iq,hv]
 have ho:nQ n (cB.mk d ts z r c v su h)=nQ n (cB.mk d ts z' r' c' v' sm h'):=rfl;simp only[mJ,hs,ho];cases iter (je n ms) n (0,([]:(List (ByteArray×Int))),([]:(List (ByteArray×Bool))))with
 |none=>rfl
 |some w=>
  obtain⟨w1,w2⟩:=w;simp only[ai];cases (decide ((d.length:Int)<=d.length)&&(decide (0<=(d.length:Int))&&wC d.length 8))with
  |false=>rfl
  |true=>
   simp only[aj];cases nQ n (cB.mk d ts z' r' c' v' sm h')with
   |none=>rfl
   |some r1=>
    simp only[ai];cases (r1.2.2 !=0)with
    |true=>
     simp only[aj];cases be ((d.length:Int).toNat) (List.replicate (d.length:Int).toNat (0:Int)).length<;>rfl
    |false=>
     simp only[ax];cases iter (iq n (cB.mk d ts z' r' c' v' sm h') zs w2 r1) n (0,w1,(List.replicate (d.length:Int).toNat 0))with
     |none=>rfl
     |some q=>
      obtain⟨w3,w4⟩:=q;simp only[ai];cases be ((d.length:Int).toNat) w4.length<;>rfl
theorem agl{ms:List bD}{e:bU}(hp:gp d)(ht:Sp ts)(hm:ms.length<=4000000)(hz:zs.length<=4000000)(hn:5000003<=n)(hn2:n<=9223372036854775000):Aa n (cB.mk d ts z r c v su h) ms zs e=Aa n (cB.mk d ts z' r' c' v' sm h') ms zs e:=by have⟨kn,out,h1,_⟩:=KS (n:=n) (p:=cB.mk d ts z r c v su h) ⟨hp,ht⟩ hm hz hn hn2;have⟨kn2,out2,h2,_⟩:=KS (n:=n) (p:=cB.mk d ts z' r' c' v' sm h') ⟨hp,ht⟩ hm hz hn hn2;have h3:=agk (n:=n) (d:=d) (ts:=ts) (z:=z) (z':=z') (r:=r) (r':=r') (c:=c) (c':=c') (v:=v) (v':=v') (su:=su) (sm:=sm) (h:=h) (h':=h') (zs:=zs) (ms:=ms);rw[h1,h2]at h3;simp only[Option.map_some,bM,Prod.mk.injEq]at h3;obtain⟨rfl,rfl⟩:=h3;simp only[Aa,h1,h2,ai,gH,Il (z:=z) (z':=z') (r:=r) (r':=r') (c:=c) (c':=c') (v:=v) (v':=v') (su:=su) (sm:=sm) (h:=h) (h':=h')]
end
theorem RU{b:au}{l:List d9}{s:List gQ}(ha:∀c∈s,c.area.length<=200)(hs:s.length<=1000)(hl:l.length<=1000)(hn:2000<=n):
 xB n b l s=some (EB b l&&(EC s&&!(s.any λc=>decide (P2 b l c.area<c.z1)))):=by
 unfold xB;rw[Wt b l hl hn];simp;cases hv:EB b l with
 |false=>simp
 |true=>
  have⟨v1,v2⟩:=(adH b l).1 hv;simp[Rl (n:=n) (s:=s) (λ x hx=>by have:=ha x hx;omega) (by omega)];cases hr:EC s with
  |false=>simp
  |true=>
   have⟨_,sok,_⟩:=(Wv s).1 hr;simp;rw[sG (λ c=>decide (P2 b l c.area<c.z1)) (λ c hc=>by have:=ha c hc;show rz n c b l=_;unfold rz;rw[RQ v1 v2 (uj (sok c hc).rt).1 (by omega) hl hn];rfl) (by omega) (by omega)];simp
def qF(v:aC):List gQ:=[⟨v.cz,v.cC,[dU v]⟩]
theorem adX(v:aC):xu v=some (qF v):=rfl
def TH(b:au)(p:d9)(v:aC):Bool:=EB b [p]&&(EC (qF v)&&!((qF v).any λc=>decide (P2 b [p] c.area<c.z1)))
def WA(r:bP):d9:=d9.mk r.gS r.hZ r.i9 r.jj
theorem abo(v:aC)(b:au)(r:bP)(hn:2000<=n):kg n v b r=some (!TH b (WA r) v):=by have h:=RU (n:=n) (b:=b) (l:=[WA r]) (s:=qF v) (by simp[qF]) (by simp[qF]) (by simp) hn;unfold WA at h;have hl:(qF v).length=1:=rfl;simp[kg,adX,show ∀x:d9,sub [x] 0 1=[x]from λ_=>rfl,h,TH];rfl
def So(r:bP)(v:aC):Bool:=bits .and .i64 r.uses (i64.wrap (1*2 ^ v.use.toNat))==0
theorem abp{v:aC}(h:okV v=true)(r:bP):ko v r=some (So r v):=by
 have hu:0<=v.use/\v.use<6:=by simp[okV]at h;omega
 have hb:i64.bits=64:=rfl;simp[ko,So,show(decide (0<=v.use)&&decide (v.use<=i64.bits))=true from by simp;omega]
def S0(lot:Int)(r:bP)(v:aC)(b:iL):Bool:=(dQ b (mF.mk [] [] [] [] [] [] [] 0 [] [] [] [] [] 0 0 [] [] lot [] [] []) v r).getD false
theorem adY{b:iL}{s:mF}{v:aC}{r:bP}:dQ b s v r=some (S0 s.dE r v b):=by
 have key:∃x,dQ b (mF.mk [] [] [] [] [] [] [] 0 [] [] [] [] [] 0 0 [] [] s.dE [] [] []) v r=some x:=by simp only[dQ,jK,akN,ai];refine sH (fD ⟨_,rfl⟩ (fD ⟨_,rfl⟩ (fD ⟨_,rfl⟩ ⟨_,rfl⟩))) λ_=>fD ⟨_,rfl⟩ (sH (fD (fD ⟨_,rfl⟩ (fD ⟨_,rfl⟩ ⟨_,rfl⟩)) (fD ⟨_,rfl⟩ ⟨_,rfl⟩)) λ_=>fD ⟨_,rfl⟩ ⟨_,rfl⟩)
 have e:dQ b s v r=dQ b (mF.mk [] [] [] [] [] [] [] 0 [] [] [] [] [] 0 0 [] [] s.dE [] [] []) v r:=rfl;obtain⟨x,hx⟩:=key;rw[e,S0,hx];rfl
theorem zl{l:List iL}{φ:(iL×Unit)->Option Bool}(p:iL->Bool)(h:∀x∈l,φ (x,())=some (p x))(hl:l.length<1099511627776)(hn:l.length<n):kr n l φ=some (l.any p):=by have:qE n l φ=some (Az p l):=iT p h hl hn;simp[kr,this,wU]
def SZ(built:List iL)(lot:Int)(r:bP)(v:aC):Bool:=built.any (S0 lot r v)
theorem abt{s:mF}{v:aC}{r:bP}(hb:s.fR.length<=1000)(hn:2000<=n):ku n v s r=some (SZ s.fR s.dE r v):=by simp[ku,rO,zl (n:=n) (l:=s.fR) (φ:=λ(y1:iL×Unit)=>dQ y1.1 s v r) (S0 s.dE r v) (λ x _=>adY) (by omega) (by omega),SZ]
def lj(r:bP):bU:=bU.mk r.ky r.m7 r.m6 r.i8 r.fS
def ll(t:eY):cB:=cB.mk t.ch t.b9 t.b8 [] t.ci t.cd t.cp t.cg
structure Nn(t:eY):Prop where
 lots:∀l∈t.land,Fo l
 land:t.land.length<=1000
 L3:t.bj.length<=900/\∀e∈t.bj,e.area.length<=900
 built:t.built.length<=1000
 zones:t.b8.length<=100
 caps:t.ci.length<=4000000
 rules:t.az.length<=100
 rule:∀r∈t.az,Wp r/\(toE (lj r)).wt<=4000000
 plan:agc (ll t)
def Yh(d:aG):Prop:=AR d/\AE d
def WB(n:Nat):Prop:=5000003<=n/\n<=9223372036854775000
def uo(t:eY)(lot:jN):List ByteArray:=GF t.b8 lot.area
def sA(t:eY)(lot:jN)(d:aG):mF:=mF.mk t.ch t.b9 t.b8 t.az t.ci t.cd t.cp t.cg t.land t.bj t.windows t.built t.base lot.id lot.owner lot.area lot.from_ d.lot d.phases (cj d) (uo t lot)
theorem adZ{d:aG}(h:AR d)(hn:1001<=n):tN n d=some (cj d):=by obtain⟨h1,h2⟩:=h;unfold tN;have key:=Jt (step:=oQ d) (λ i=>(i,(d.phases.take i).flatMap (·.aE))) (s:=(0,[])) d.phases.length (cj d) rfl (λ i hi=>by have hl:=ey (l:=d.phases.take i) λp hp=>h2 p (List.mem_of_mem_take hp);rw[length_take]at hl;have hv:=h2 _ (getElem_mem hi);generalize hL:(d.phases.take i).flatMap (·.aE)=L at hl;have hap:bL L.length L.length d.phases[i].aE.length d.phases[i].aE.length 72=true:=eX (by omega) (by simp[maxLen];omega);simp only[oQ,dV hi,aj,bG hi,ai,hap,gJ,aN,aY i];rw[kD hi,List.flatMap_append,hL];simp) (by simp[oQ,cj]) n (by omega);have hz:be 0 ([]:List aC).length=true:=rfl;simp[key]
def Sf(n:Nat)(t:eY)(d:aG):Bool:=(kC n (ll t) (l8 t.land d.lot).1 d).getD false
def qU(n:Nat)(t:eY)(d:aG):Int:=bif(l8 t.land d.lot).2 then(bif Sf n t d then 0 else 1)else 4
def aod:mF:=mF.mk ([]) ([]) ([]) ([]) ([]) ([]) ([]) 0 ([]) ([]) ([]) ([]) ([]) 0 0 ([]) ([]) 0 ([]) ([]) ([])
theorem look_eq{t:eY}{d:aG}(ht:Nn t)(hd:Yh d)(hn:WB n):zW n t d=some (bif qU n t d==0 then sA t (l8 t.land d.lot).1 d else aod,qU n t d)/\(qU n t d=0->∀v∈cj d,okV v=true):=by
 obtain⟨hn1,hn2⟩:=hn;have hl:=ht.land;have e1:MH n t.land d.lot=some (l8 t.land d.lot):=aiU ht.lots (by omega) (by omega);have hw:=ZI ht.lots d.lot;obtain⟨b,hb,hv⟩:=ai5 (n:=n) (p:=ll t) (lot:=(l8 t.land d.lot).1) (d:=d) ht.caps hw.1 hd.1 hd.2 (by omega);have e2:kC n (cB.mk t.ch t.b9 t.b8 t.az t.ci t.cd t.cp t.cg) (l8 t.land d.lot).1 d=some b:=hb;have e3:Co n (cB.mk t.ch t.b9 t.b8 t.az t.ci t.cd t.cp t.cg) (l8 t.land d.lot).1.area=some (GF t.b8 (l8 t.land d.lot).1.area):=abf _ _ ht.zones hw.1 (by omega);have e4:Sf n t d=b:=by unfold Sf;rw[hb];rfl
 simp[zW,e1,e2,e3,adZ hd.1 (show 1001<=n by omega),qU,e4];cases (l8 t.land d.lot).2 with
 |false=>exact⟨rfl,λh=>absurd (show (4:Int)=0 from h) (by decide)⟩
 |true=>
  cases b with
  |false=>exact⟨rfl,λh=>absurd (show (1:Int)=0 from h) (by decide)⟩
  |true=>exact⟨rfl,λ_=>hv rfl⟩
def amM(n:Nat)(t:eY)(lot:jN)(d:aG)(r:bP):Bool:=((nN n (ll t) lot d).bind λms=>Aa n (ll t) ms (uo t lot) (lj r)).getD 1==0
def E2(n:Nat)(t:eY)(lot:jN)(d:aG)(r:bP):Bool:=
 bif r.kind==0 then amM n t lot d r else bif r.kind==1 then(cj d).any (λ v=>!TH (TF lot.area).1 (WA r) v)else bif r.kind==2 then(cj d).any (So r)else bif r.kind==3 then(cj d).any (SZ t.built d.lot r)else false
theorem WC{t:eY}(ht:Nn t)(lot:jN):(uo t lot).length<=100:=Nat.le_trans (amb _ _) ht.zones
theorem ai6{t:eY}{lot:jN}{d:aG}{r:bP}(ht:Nn t)(hl:lot.area.length<=900)(hd:Yh d)(hv:∀v∈cj d,okV v=true)(hr:(toE (lj r)).wt<=4000000)(hn:WB n):ng n (sA t lot d) r=some (E2 n t lot d r):=by
 obtain⟨hn1,hn2⟩:=hn;have hvl:=xV hd.1;have hz:=WC ht lot;simp only[ng,iw,E2];cases (r.kind==0)with
 |true=>
  have htb:=ht.plan.tabs;obtain⟨e1,e2,e3,e4,e5,e6,e7,e8,hOf⟩:=aoa (n:=n) (p:=ll t) (lot:=lot) (d:=d) ⟨by have:=htb.1;omega,by have:=htb.1;omega,λx hx=>by have:=htb.2 x hx;omega⟩ hl hd.1 (by omega);have h1:=hOf t.az;have h2:=hOf [];have h2':nN n (ll t) lot d=_:=h2;have h1':nN n (cB.mk t.ch t.b9 t.b8 t.az t.ci t.cd t.cp t.cg) (jN.mk lot.id lot.owner lot.area lot.from_) (aG.mk d.lot d.phases)=_:=h1;obtain⟨v,hE⟩:=amj (n:=n) (p:=ll t) (ms:=[⟨⟨#[97,114,101,97]⟩,e1⟩,⟨⟨#[99,111,118,101,114]⟩,e2⟩,⟨⟨#[102,108,111,111,114]⟩,e3⟩,⟨⟨#[102,108,111,111,114,115]⟩,e4⟩,⟨⟨#[104,101,105,103,104,116]⟩,e5⟩,⟨⟨#[104,111,109,101,115]⟩,e6⟩,⟨⟨#[114,117,110,111,102,102]⟩,e7⟩,⟨Cy,Cx (qR lot) (iA d)⟩,⟨⟨#[116,114,97,102,102,105,99]⟩,e8⟩]) (zs:=uo t lot) (e:=lj r) ht.plan (by simp) (by omega) hr hn1 hn2;have hE':=(agl (n:=n) (d:=t.ch) (ts:=t.b9) (z:=t.b8) (r:=t.az) (r':=[]) (c:=t.ci) (v:=t.cd) (su:=t.cp) (h:=t.cg) (zs:=uo t lot) (ms:=[⟨⟨#[97,114,101,97]⟩,e1⟩,⟨⟨#[99,111,118,101,114]⟩,e2⟩,⟨⟨#[102,108,111,111,114]⟩,e3⟩,⟨⟨#[102,108,111,111,114,115]⟩,e4⟩,⟨⟨#[104,101,105,103,104,116]⟩,e5⟩,⟨⟨#[104,111,109,101,115]⟩,e6⟩,⟨⟨#[114,117,110,111,102,102]⟩,e7⟩,⟨Cy,Cx (qR lot) (iA d)⟩,⟨⟨#[116,114,97,102,102,105,99]⟩,e8⟩]) (e:=lj r) ht.plan.defs ht.plan.tabs (by simp) (by omega) hn1 hn2).trans hE;unfold lj at hE';simp[sA,h1',hE',amM,h2',hE]
 |false=>
  cases (r.kind==1)with
  |true=>
   simp only[aj,ax,show(sA t lot d).kh=lot.area from rfl,show(sA t lot d).aE=cj d from rfl,abh (n:=n) lot.area hl (by omega),ai];rw[gF (λ v=>!TH (TF lot.area).1 (WA r) v) (λ v _=>abo v _ r (by omega)) (by omega) (by omega)];rfl
  |false=>
   cases (r.kind==2)with
   |true=>
    simp only[aj,ax,show(sA t lot d).aE=cj d from rfl];rw[gF (So r) (λ v hm=>abp (hv v hm) r) (by omega) (by omega)];rfl
   |false=>
    cases (r.kind==3)with
    |true=>
     simp only[aj,ax,show(sA t lot d).aE=cj d from rfl];rw[gF (SZ t.built d.lot r) (λ v _=>abt (s:=sA t lot d) ht.built (by omega)) (by omega) (by omega)];rfl
    |false=>rfl
def addN(out:List ByteArray)(name:ByteArray)(bad:Bool):List ByteArray:=bif bad&&!(out.any (fW name))then out++[name]else out
theorem ad1 out (name:ByteArray) bad:(addN out name bad).length<=out.length+1:=by unfold addN;cases (bad&&!(out.any (fW name)))<;>simp
theorem ad2{name:ByteArray}{bad:Bool}{out:List ByteArray}(hl:out.length<=1000)(hn:2000<=n):jP n name bad out=some (addN out name bad):=by
 have hmx:maxLen=9223372036854775807:=rfl;have hap:bL out.length out.length (sub [name] 0 1).length 1 16=true:=by simp[bL,sub];omega
 simp[jP,uL (n:=n) (l:=out) (a:=name) (by omega) (by omega),addN,hap];cases bad with
 |false=>rfl
 |true=>cases (out.any (fW name))<;>rfl
def N4(t:eY)(d:aG):Bool:=(cj d).any λv=>!Nj t.bj d.lot (qF v)
def ai7:ByteArray:=⟨#[101,97,115,101,109,101,110,116]⟩
def KT(n:Nat)(t:eY)(lot:jN)(d:aG)(l:List bP):List ByteArray:=l.foldl (λ out r=>addN out r.name (E2 n t lot d r)) []
theorem Kt(f:bP->Bool):∀(l:List bP) out,(l.foldl (λ out r=>addN out r.name (f r)) out).length<=out.length+l.length
 |[],out=>by simp
 |r::l,out=>by have h1:=Kt f l (addN out r.name (f r));have h2:=ad1 out r.name (f r);rw[foldl_cons,fU];omega
def applied(t:eY)(lot:jN)(day:Int):List bP:=t.az.filter (pQ (uo t lot) day)
def sK(t:eY)(d:aG):jN:=(l8 t.land d.lot).1
def Ju(n:Nat)(t:eY)(d:aG)(day:Int):List ByteArray:=bif qU n t d==0 then addN (KT n t (sK t d) d (applied t (sK t d) day)) ai7 (N4 t d)else []
theorem ZL{t:eY}{d:aG} day (ht:Nn t) (hd:Yh d) (hn:WB n):qP n t d day=some (Ju n t d day,qU n t d):=by
 obtain⟨hk,hv⟩:=look_eq (n:=n) ht hd hn;have hn1:=hn.1;have hvl:=xV hd.1;simp[qP,hk,Ju];by_cases h0:qU n t d=0;have h0b:(qU n t d==0)=true:=by simp[h0]
 have h0c:(qU n t d !=0)=false:=by simp[h0]
 have hw:=ZI ht.lots d.lot;have hz:=WC ht (sK t d);have hA:tT n (cB.mk t.ch t.b9 t.b8 t.az t.ci t.cd t.cp t.cg) (uo t (sK t d)) day=some ((PG t.az (uo t (sK t d)) day).map λ(i:Nat)=>(i:Int)):=RO _ _ _ (λ r hr=>(ht.rule r hr).1) ht.rules hz (by omega);have hal:(PG t.az (uo t (sK t d)) day).length<=100:=Nat.le_trans (length_filter_le _ _) (by rw[List.length_range];exact ht.rules);have hpick:(PG t.az (uo t (sK t d)) day).filterMap (λ i=>t.az[i]?)=applied t (sK t d) day:=Rm (pQ (uo t (sK t d)) day) t.az;have hloop:∀A:List Nat,A.length<=100->(∀ i∈A,i<t.az.length)->iter (nu n t (sA t (sK t d) d,qU n t d) (A.map λ(i:Nat)=>i)) n (0,[])=some (KT n t (sK t d) d (A.filterMap λi=>t.az[i]?)):=by
  intro A hA hAr
  have key:=gG (l:=A) (step:=nu n t (sA t (sK t d) d,qU n t d) (A.map λ(i:Nat)=>i)) (λ i s=>(i,s)) (λ i s=>match t.az[i]? with
   |some r=>addN s r.name (E2 n t (sK t d) d r)
   |none=>s) (λ s=>s) (λ i s=>s.length<=i) (λ i hi s hs=>by have hr:=hAr _ (getElem_mem hi);have hlm:(A.map λ(i:Nat)=>(i:Int)).length=A.length:=(by simp);have hg:b7 (A.map λ(i:Nat)=>(i:Int)) ((0:Nat)+i)=some ((A[i]:Nat):Int):=(by rw[bI (by omega)];simp);have hrr:=ht.rule _ (getElem_mem hr);have hb:=ai6 (n:=n) (t:=t) (lot:=sK t d) (d:=d) ht hw.1 hd (hv h0) hrr.2 hn;have e:=dJ hr;simp only[nu,hlm,dV hi,aj,aW hi,hg,ai,bG hr,hb,aN,ad2 (n:=n) (name:=t.az[A[i]].name) (bad:=E2 n t (sK t d) d t.az[A[i]]) (out:=s) (by omega) (by omega),aY i,e];exact⟨trivial,Nat.le_trans (ad1 _ _ _) (by omega)⟩) (λ s _=>by have hlm:(A.map λ(i:Nat)=>i).length=A.length:=(by simp);simp[nu]) n (by omega) [] (ay _)
  rw[lp]at key;rw[key];congr 1;unfold KT;generalize []=s0;clear key hA
  induction A generalizing s0 with
  |nil=>rfl
  |cons a A ih=>
   have ha:=hAr a (by simp);rw[foldl_cons,List.filterMap_cons];simp only[dJ ha];rw[foldl_cons];exact ih (λ i hi=>hAr i (by simp[hi])) _
 have hlo:=hloop (PG t.az (uo t (sK t d)) day) hal (λ i hi=>by have:=(mem_filter.1 hi).1;simpa using this);rw[hpick]at hlo;have hrl:(KT n t (sK t d) d (applied t (sK t d) day)).length<=100:=by have h1:=Kt (E2 n t (sK t d) d) (applied t (sK t d) day) [];have h2:(applied t (sK t d) day).length<=100:=Nat.le_trans (length_filter_le _ _) ht.rules;unfold KT;simp at h1;omega
 have hany:iw n (sA t (sK t d) d) (λ (y1:aC×Unit)=>nk n y1.1 t d)=some (N4 t d):=by
  have hs:∀v,nk n v t d=some (!Nj t.bj d.lot (qF v)):=by intro v;have hl1:(qF v).length=1:=rfl;have h:=Yc (n:=n) (l:=t.bj) (lot:=d.lot) (s:=qF v) ht.L3.1 ht.L3.2 (by simp[qF]) (by omega);simp[nk,adX,h]
  simp[iw,show(sA t (sK t d) d).aE=cj d from rfl];rw[gF (λ v=>!Nj t.bj d.lot (qF v)) (λ v _=>hs v) (by omega) (by omega)];rfl
 have hsc:sA t (l8 t.land d.lot).1 d=sA t (sK t d) d:=rfl;simp only[h0b,h0c,aj,ax,hsc,show(sA t (sK t d) d).zones=uo t (sK t d)from rfl,hA,ai,length_nil,aN,hlo,hany,ad2 (n:=n) (name:=⟨#[101,97,115,101,109,101,110,116]⟩) (bad:=N4 t d) (out:=KT n t (sK t d) d (applied t (sK t d) day)) (by omega) (by omega),jh];rw[h0];rfl;have h0b:(qU n t d==0)=false:=by simpa using h0
 have h0c:(qU n t d !=0)=true:=by simpa using h0
 simp[h0b,h0c]
theorem ZM{t:eY}{d:aG} day (ht:Nn t) (hd:Yh d) (hn:WB n):mM n t d day=some ((qU n t d==0)&&decide (Ju n t d day=[])):=by
 simp[mM,ZL day ht hd hn];cases (qU n t d==0)with
 |false=>rfl
 |true=>
  simp;cases Ju n t d day with
  |nil=>rfl
  |cons x l=>
   have:(((x::l).length:Nat):Int)≠0:=(by simp;omega);rw[beq_eq_false_iff_ne.2 this];simp
end Go.Proofs
