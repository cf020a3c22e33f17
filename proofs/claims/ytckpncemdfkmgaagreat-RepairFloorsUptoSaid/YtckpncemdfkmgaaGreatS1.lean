import Derived.Test.YtckpncemdfkmgaaGreatTD1
open Go.IntKind (i64)
open List (length_take mem_map all_eq_true getElem_mem length_map mem_iff_getElem length_drop length_nil foldl_cons take_of_length_le mem_filter any_eq_true pairwise_cons length_filter_le map_append pairwise_append getElem_drop)
namespace Go.Proofs
open Go.Gb Go.RowKit
variable {n:Nat}
theorem jm(a b:Int):cmp_Compare_int a b=some (if a<b then -1 else if b<a then 1 else 0):=by by_cases h1:a<b;simp[cmp_Compare_int,cmp_isNaN_int,h1];by_cases h2:b<a;simp[cmp_Compare_int,cmp_isNaN_int,h1,h2];simp[cmp_Compare_int,cmp_isNaN_int,h1,h2]
theorem pO{l:List Int}(hl:l.length<1099511627776)(_:l.length<n):pF n l=some (kV ot l):=by show N3 l=_;unfold N3;rw[Nat.ble_eq_true_of_le (show l.length<=1099511627775 by omega),aj]
theorem tY{l:List Int}(hl:l.length<1099511627776)(hn:l.length<n):pG n l=some ((),jc l):=by rw[<- adq];exact Yf (eq:=λx y=>x==y) (ne:=λx y=>x !=y) (λ x y=>by simp[bne]) hl hn
theorem RS{l:List Int}{a:Int}(hl:l.length<1099511627776)(hn:l.length<n):El n l a=some (AA (λ x=>a==x) l):=Rh hl hn
theorem KN{l:List Int}{a:Int}(hl:l.length<1099511627776)(hn:l.length<n):rq n l a=some (l.any λx=>a==x):=by unfold rq;rw[RS hl hn,ai,wZ]
theorem Fu{l:List cO}{φ:(cO×Unit)->Option Bool}(p:cO->Bool)(h:∀x∈l,φ (x,())=some (p x))(hl:l.length<1099511627776)(hn:l.length<n):rJ n l φ=some (AA p l):=iY p h hl hn
theorem Fv{l:List bD}{φ:(bD×Unit)->Option Bool}(p:bD->Bool)(h:∀x∈l,φ (x,())=some (p x))(hl:l.length<1099511627776)(hn:l.length<n):kX n l φ=some (AA p l):=iY p h hl hn
theorem Px{l:List ax}(h:l.length<1099511627776):AJ l=some l:=zU (b:=32) (by omega) (by simp[maxLen];omega)
theorem RU{l:List Int}(h:l.length<1099511627776):sZ l=some l:=zU (b:=8) (by omega) (by simp[maxLen];omega)
theorem M8{l:List (List ax)}(hf:l.flatten.length<1099511627776)(hl:l.length<1099511627776)(hn:l.length<n):yI n l=some l.flatten:=Mt (ax.mk 0 0 0 0) (b:=32) hf (by omega) hl hn
theorem Ct{a b:List ax}(hl:a.length<1099511627776)(hn:a.length<n):oG n a b=some (decide (a=b)):=by
 have e:oG n a b=TD n (λ x1 x2:ax=>!((x1.x0==x2.x0)&&((x1.y0==x2.y0)&&((x1.x1==x2.x1)&&((x1.y1==x2.y1)&&true))))) a b:=by kernel_rfl
 rw[e];refine Ri (λ x y=>?_) hl hn;obtain⟨a,b,c,d⟩:=x;obtain⟨e,f,g,h⟩:=y;simp;rw[kS];simp
theorem Cu{a b:List aK}(hl:a.length<1099511627776)(hn:a.length<n):vz n a b=some (decide (a=b)):=by
 have e:vz n a b=TD n (λ x1 x2:aK=>!((x1.from_==x2.from_)&&((x1.to==x2.to)&&true))) a b:=by kernel_rfl
 rw[e];refine Ri (λ x y=>?_) hl hn;obtain⟨a,b⟩:=x;obtain⟨c,d⟩:=y;simp;rw[kS];simp
abbrev tA(a b:aK):Bool:=decide (a.from_<b.from_)
theorem M9:Go.Sort.SWO tA where
 irrefl x:=by simp[tA]
 trans x y z h1 h2:=by simp only[tA,bF]at *;omega
 ntrans x y z h1 h2:=by simp only[tA,dL]at *;omega
theorem JC{l:List aK}{φ:(aK×aK×Unit)->Option Int}(f:aK->aK->Int)(hφ:∀x y,φ (x,y,())=some (f x y))(hf:∀x y,decide (f x y<0)=tA x y)(hl:l.length<1099511627776)(_:l.length<n):uU n l φ=some (rV tA l):=
 adz f hφ hf M9 hl
theorem ahR{V O:Type}{step:V->Option (V⊕O)}(Inv:V->Prop)(Post:O->Prop)(μ:V->Nat)
 (h:∀v,Inv v->(∃ v',step v=some (.inl v')/\Inv v'/\μ v'< μ v)\/∃o,step v=some (.inr o)/\Post o):∀(n:Nat)(v:V),Inv v->μ v<n->∃o,iter step n v=some o/\Post o
 | 0,_,_,hn=>absurd hn (Nat.not_lt_zero _)
 |n+1,v,hi,hn=>by rcases h v hi with ⟨v',h1,h2,h3⟩|⟨o,h1,h2⟩;rw[dM h1];exact ahR Inv Post μ h n v' h2 (by omega);exact⟨o,cu h1,h2⟩
theorem HZ:∀(N:Nat)(l:List Nat),l.Nodup->(∀ y∈l,y<N)->l.length<=N
 | 0,[],_,_=>aA _
 | 0,x::l,_,h=>absurd (h x (by simp)) (by omega)
 |N+1,l,hn,h=>by
  have h1:=HZ N (l.filter λy=>decide (y≠N)) (hn.filter _) (λ y hy=>by rw[mem_filter]at hy;have:=h y hy.1;have:=hy.2;simp at this;omega);have h2:=List.length_eq_countP_add_countP (λ y=>decide (y≠N)) (l:=l);rw[List.countP_eq_length_filter]at h2;have h3:List.countP (λ a=>decide ¬(decide (a≠N)=true)) l=l.count N:=by rw[List.count];refine List.countP_congr λy _=>?_;simp
  have h4:=List.nodup_iff_count.1 hn N;omega
def Yl(us:List (List Int))(N:Nat):Prop:=us.length=N/\N<=4000000/\∀l∈us,l.length<=4000000/\∀k∈l,0<=k/\k<N
structure BI(us:List (List Int))(N to h:Nat)(d:List Int)(F:List Nat):Prop where
 dl:d.length=N
 nd:F.Nodup
 rg:∀x∈F,x<N
 mem:∀i:Nat,i<N->(0<=d.getD i 0↔i∈F)
 ub:∀j x:Nat,F[j]? =some x->d.getD x 0<=(j:Int)
 pre:∀j x:Nat,F[j]? =some x->0<j->∃p y:Nat,p<j/\F[p]? =some y/\(y:Int)∈us.getD x []/\d.getD y 0=d.getD x 0-1
 hd:F[0]? =some to/\d.getD to 0=0
 hh:h<=F.length
 cl:∀p y:Nat,p<h->F[p]? =some y->∀i:Nat,i<N->(y:Int)∈us.getD i []->0<=d.getD i 0
theorem BI.len{us:List (List Int)}{N to h:Nat}{d:List Int}{F:List Nat}(b:BI us N to h d F):F.length<=N:=by exact HZ N F b.nd b.rg
theorem BI.push{us:List (List Int)}{N to h:Nat}{d:List Int}{F:List Nat}(b:BI us N to h d F){i x p:Nat}(hi:i<N)(hd:d.getD i 0<0)(hp:F[p]? =some x)(hx:(x:Int)∈us.getD i []):
 BI us N to h (d.set i (d.getD x 0+1)) (F++[i]):=by
 have hiF:i∉F:=λhm=>by have:=(b.mem i hi).2 hm;omega
 have Wr:x∈F:=cB hp;have hne:∀y,y∈F->i≠y:=λy hy e=>hiF (e ▸ hy);have hset:∀y,y∈F->(d.set i (d.getD x 0+1)).getD y 0=d.getD y 0:=λy hy=>by simp[List.getElem?_set_ne (hne y hy)]
 have vp:(d.set i (d.getD x 0+1)).getD i 0=d.getD x 0+1:=by
  have:i<d.length:=by rw[b.dl];exact hi
  simp[this]
 have hx0:0<=d.getD x 0:=(b.mem x (b.rg x Wr)).2 Wr;have hlt:p<F.length:=(dn.1 hp).1;refine⟨by simpa using b.dl,?_,?_,?_,?_,?_,?_,?_,?_⟩;rw[List.nodup_append];exact⟨b.nd,by simp,λa ha c hc=>by simp at hc;subst hc;exact λe=>hiF (e ▸ ha)⟩;intro y hy;rw[bL]at hy;rcases hy with hy|hy;exact b.rg y hy;simp at hy;omega;intro j hj;by_cases e:i=j;subst e;rw[vp];exact⟨λ _=>by simp,λ_=>by omega⟩;simp only[List.getD,List.getElem?_set_ne e];rw[bL];have:=b.mem j hj;simp at this;rw[this];simp[Ne.symm e];intro j y hy;rw[List.getElem?_append]at hy;split at hy;rw[hset y (cB hy)];exact b.ub j y hy;rename_i hj;have:y=i/\j=F.length:=by
  cases h:j-F.length with
  |zero=>rw[h]at hy;simp at hy;exact⟨hy.symm,by omega⟩
  |succ z=>rw[h]at hy;simp at hy
 obtain⟨rfl,rfl⟩:=this;rw[vp];have:=b.ub p x hp;omega;intro j y hy hj;rw[List.getElem?_append]at hy;split at hy;have⟨p',y',h1,h2,h3,h4⟩:=b.pre j y hy hj;exact⟨p',y',h1,by rw[List.getElem?_append_left (by have:=(dn.1 h2).1;exact this)];exact h2,h3,by rw[hset y' (cB h2),hset y (cB hy)];exact h4⟩;rename_i hj';have:y=i/\j=F.length:=by
  cases h:j-F.length with
  |zero=>rw[h]at hy;simp at hy;exact⟨hy.symm,by omega⟩
  |succ z=>rw[h]at hy;simp at hy
 obtain⟨rfl,rfl⟩:=this;exact⟨p,x,hlt,by rw[List.getElem?_append_left hlt];exact hp,hx,by rw[vp,hset x Wr];omega⟩;have h0:=(dn.1 b.hd.1).1;exact⟨by rw[List.getElem?_append_left h0];exact b.hd.1,by rw[hset _ (cB b.hd.1)];exact b.hd.2⟩;have:=b.hh;simp;omega;intro p' y hp' hy j hj hm;rw[List.getElem?_append_left (by have:=b.hh;omega)]at hy;have:=b.cl p' y hp' hy j hj hm;rw[hset j ((b.mem j hj).1 this)];exact this
theorem pn{α:Type}(o:Nat)(l:List α):UY o l=l.drop o:=by cases o<;>simp[UY]
def BS(us:List (List Int))(N to h x:Nat):(Int×Int×List Int×List Int)->Prop
 |(v4,v5,d,v7)=>∃(o i:Nat)(F:List Nat),v4=o/\v5=i/\o<=v7.length/\v7.drop o=(F.drop (h+1)).map (λ k:Nat=>(k:Int))/\i<=N/\BI us N to h d F/\F[h]? =some x/\∀i',i'<i->(x:Int)∈us.getD i' []->0<=d.getD i' 0
theorem amo{n N to h x:Nat}{a0:pE}{r1:List Int}(hg:Yl a0.uses N)(hr:r1.length=N)(hn:4000001<=n)(v:Int×Int×List Int×List Int)(hv:BS a0.uses N to h x v):
 (∃ v',gK n a0 r1 x v=some (.inl v')/\BS a0.uses N to h x v'/\N-v'.2.1.toNat<N-v.2.1.toNat)\/
 ∃q,gK n a0 r1 x v=some (.inr q)/\∃(o:Nat)(F:List Nat),q.1=(o:Int)/\o<=q.2.2.length/\q.2.2.drop o=(F.drop (h+1)).map (λ k:Nat=>(k:Int))/\BI a0.uses N to (h+1) q.2.1 F:=by
 obtain⟨v4,v5,d,v7⟩:=v;obtain⟨o,i,F,rfl,rfl,ho,hq,hi,hb,hx,hc⟩:=hv;have hx':x<N:=hb.rg x (cB hx);have GP:=hg.1;have hdl:=hb.dl;by_cases hlt:i<N;left;have wx:i<a0.uses.length:=by omega
 have hl:=hg.2.2 a0.uses[i] (getElem_mem wx);have hcon:=KN (n:=n) (l:=a0.uses[i]) (a:=(x:Int)) (by omega) (by omega);have hud:a0.uses.getD i []=a0.uses[i]:=by simp[wx]
 have hdi:d[i]'(by omega)=d.getD i 0:=by simp[show i<d.length by omega]
 have GS:d[x]'(by omega)=d.getD x 0:=by simp[show x<d.length by omega]
 simp only[gK,show decide ((i:Int)<((a0.uses.length:Int)))=true from by simp;omega,aj,bJ wx,ai,aV (show i<r1.length by omega),aV (show x<r1.length by omega),
  bG (show i<d.length by omega),bG (show x<d.length by omega),hcon,hdi,GS]
 have hFl:=hb.len;have hN:=hg.2.1;have hlen:v7.length-o=F.length-(h+1):=by have:=congrArg List.length hq;simpa using this
 have hmx:maxLen=9223372036854775807:=rfl;by_cases hA:d.getD i 0<0/\(x:Int)∈a0.uses[i];have h1:(a0.uses[i].any λy=>(x:Int)==y)=true:=any_eq_true.2 ⟨_,hA.2,by simp⟩;have hx0:0<=d.getD x 0:=(hb.mem x hx').2 (cB hx);have hxu:=hb.ub h x hx;have hFh:h<F.length:=(dn.1 hx).1;have hap:bP (v7.drop o).length (v7.length-o) (sub [(i:Int)] 0 1).length 1 8=true:=by simp[bP,sub];omega
 have hw:i64.wrap (d.getD x 0+1)=d.getD x 0+1:=aM (by omega) (by omega);refine⟨(((0:Nat):Int),((i+1:Nat):Int),d.set i (d.getD x 0+1),v7.drop o++[(i:Int)]),?_,?_,by show N-((i+1:Nat):Int).toNat<N-(i:Int).toNat;omega⟩;simp only[hA.1,decide_true,aj,ai,h1,Int.toNat_natCast,pn,hap,gY,hw,aX i];simp[sub];refine⟨0,i+1,F++[i],rfl,rfl,Nat.zero_le _,?_,by omega,hb.push hlt hA.1 hx (by rw[hud];exact hA.2),by rw[List.getElem?_append_left hFh];exact hx,?_⟩;rw[List.drop_zero,hq,List.drop_append_of_le_length (by omega)];simp;intro i' hi' hm;have hpush:=hb.push hlt hA.1 hx (by rw[hud];exact hA.2);by_cases e:i'=i;subst e;exact(hpush.mem i' hlt).2 (by simp);have:=hc i' (by omega) hm;exact(hpush.mem i' (by omega)).2 (List.mem_append_left _ ((hb.mem i' (by omega)).1 this));have hB:(bif decide (d.getD i 0<0)then some (a0.uses[i].any λy=>(x:Int)==y)else some false)=some false:=by
  by_cases h2:d.getD i 0<0;simp only[h2,decide_true,aj,bM];cases hc:(a0.uses[i].any λy=>x==y)with
  |false=>rfl
  |true=>
   obtain⟨y,hy,e⟩:=any_eq_true.1 hc;obtain rfl:x=y:=(by simpa using e);exact absurd ⟨h2,hy⟩ hA
  simp only[h2,decide_false,au]
 refine⟨(o,(i+1:Nat),d,v7),?_,?_,by show N-((i+1:Nat):Int).toNat<N-(i:Int).toNat;omega⟩;rw[hB];simp[pz (show o+(v7.length-o)=v7.length by omega),aX i];refine⟨o,i+1,F,rfl,rfl,ho,hq,by omega,hb,hx,λi' hi' hm=>?_⟩;by_cases e:i'=i;subst e;rw[hud]at hm;exact Int.not_lt.1 λh2=>hA ⟨h2,hm⟩;exact hc i' (by omega) hm;right;have hiN:i=N:=by omega
 have hFh:h<F.length:=(dn.1 hx).1;refine⟨(o,d,v7),?_,o,F,rfl,ho,hq,?_⟩;simp only[gK,show decide ((i:Int)<(a0.uses.length))=false from by simp;omega,au,Int.toNat_natCast,pz (show o+(v7.length-o)=v7.length by omega),aj];refine⟨hb.dl,hb.nd,hb.rg,hb.mem,hb.ub,hb.pre,hb.hd,hFh,λp y hp hy j hj hm=>?_⟩;by_cases e:p=h;subst e;rw[hx]at hy;cases hy;exact hc j (by omega) hm;exact hb.cl p y (by omega) hy j hj hm
def BO(us:List (List Int))(N to h:Nat):(Int×List Int×List Int)->Prop
 |(v1,d,v3)=>∃(o:Nat)(F:List Nat),v1=o/\o<=v3.length/\v3.drop o=(F.drop h).map (λ k:Nat=>(k:Int))/\BI us N to h d F
theorem amq{n N to h:Nat}{a0:pE}{r1:List Int}(hg:Yl a0.uses N)(hr:r1.length=N)(hn:4000001<=n)(v:Int×List Int×List Int)(hv:BO a0.uses N to h v):
 (∃ v',dX n a0 r1 v=some (.inl v')/\BO a0.uses N to (h+1) v')\/∃d,dX n a0 r1 v=some (.inr d)/\∃F,BI a0.uses N to F.length d F:=by
 obtain⟨v1,d,v3⟩:=v;obtain⟨o,F,rfl,ho,hq,hb⟩:=hv;have hlen:v3.length-o=F.length-h:=by have:=congrArg List.length hq;simpa using this
 by_cases hlt:h<F.length;left;obtain⟨x,hx⟩:∃x,F[h]? =some x:=⟨_,dm hlt⟩;have hox:v3[o]? =some x:=by have:=congrArg (λ l=>l[0]?) hq;simpa[hx]using this
 have hdr:v3.drop (o+1)=(F.drop (h+1)).map (λ k:Nat=>(k:Int)):=by have:=congrArg (λ l=>l.drop 1) hq;simpa using this
 obtain⟨q,hq1,o2,F2,hq2,hq3,hq4,hq5⟩:=ahR (BS a0.uses N to h x) (λ q:Int×List Int×List Int=>∃(o:Nat)(F:List Nat),q.1=o/\o<=q.2.2.length/\q.2.2.drop o=(F.drop (h+1)).map (λ k:Nat=>(k:Int))/\BI a0.uses N to (h+1) q.2.1 F)
  (λ v=>N-v.2.1.toNat) (amo (r1:=r1) hg hr hn) n ((o+1:Nat),0,d,v3) ⟨o+1,0,F,rfl,rfl,by omega,hdr,Nat.zero_le _,hb,hx,λi' hi'=>absurd hi' (Nat.not_lt_zero _)⟩ (by have:=hg.2.1;simp;omega)
 obtain⟨w1,w2,w3⟩:=q;simp only at hq2 hq3 hq4 hq5;subst hq2;refine⟨(o2,w2,w3),?_,o2,F2,rfl,hq3,hq4,hq5⟩;have hat:bz v3 (o+0)=some (x:Int):=by rw[Int.add_zero,Ay];exact hox
 simp only[dX,Int.toNat_natCast,show decide (((v3.length-o:Nat):Int)>0)=true from by simp;omega,aj,show ct 0 (v3.length-o)=true from by simp[ct];omega,hat,ai,
  uS (show 0<=1 by omega) (show (1:Int)<=(v3.length-o:Nat)by omega) (Int.le_refl _),pz (show o+1+(v3.length-o-1)=v3.length by omega),hq1,pz (show o2+(w3.length-o2)=w3.length by omega)]
 right;have hhF:h=F.length:=by have:=hb.hh;omega
 refine⟨d,?_,F,hhF ▸ hb⟩;simp only[dX,Int.toNat_natCast,show decide (((v3.length-o:Nat):Int)>0)=false from by simp;omega,au]
theorem eO{V O:Type}{step:V->Option (V⊕O)}(Inv:Nat->V->Prop)(Post:O->Prop)(K:Nat)(hK:∀k v,Inv k v->k<=K)
 (h:∀k v,Inv k v->(∃ v',step v=some (.inl v')/\Inv (k+1) v')\/∃o,step v=some (.inr o)/\Post o):∀(n k:Nat)(v:V),Inv k v->K<n+k->∃o,iter step n v=some o/\Post o
 | 0,k,v,hi,hn=>absurd (hK k v hi) (by omega)
 |n+1,k,v,hi,hn=>by rcases h k v hi with ⟨v',h1,h2⟩|⟨o,h1,h2⟩;rw[dM h1];exact eO Inv Post K hK h n (k+1) v' h2 (by omega);exact⟨o,cu h1,h2⟩
theorem abn{n N to:Nat}{a0:pE}(hg:Yl a0.uses N)(hd:a0.defs.length=N)(hn:4000002<=n)(ht:to<N):∃d F,kz n a0 to=some d/\BI a0.uses N to F.length d F:=by
 have hN:=hg.2.1;have hr:qM (sub ([(-1)]:List Int) 0 1) N=some (List.replicate N (-1)):=by show(ck (decide (0<=(N:Int))&&decide ((N:Int)<=1000000000000)) (some (List.replicate (N:Int).toNat (-1))))=_;rw[show decide (0<=(N:Int))=true by simp,show decide ((N:Int)<=1000000000000)=true by simp;omega];rfl
 have hlr:(List.replicate N (-1:Int)).length=N:=List.length_replicate;have hb0:BI a0.uses N to 0 ((List.replicate N (-1:Int)).set to 0) [to]:=by
  have hto:((List.replicate N (-1:Int)).set to 0).getD to 0=0:=by simp[ht]
  refine⟨by simp,by simp,λx hx=>by simp at hx;omega,λi hi=>?_,λj x hx=>?_,λj x hx hj=>?_,⟨rfl,hto⟩,by simp,λp y hp=>absurd hp (Nat.not_lt_zero _)⟩;by_cases e:to=i;subst e;rw[hto];simp;simp[List.getElem?_set_ne e];simp[hi,Ne.symm e];cases j with
  |zero=>simp at hx;subst hx;rw[hto];simp
  |succ j=>simp at hx
  cases j with
  |zero=>omega
  |succ j=>simp at hx
 obtain⟨d,h1,F,h2⟩:=eO (step:=dX n a0 (List.replicate N (-1))) (λ h v=>BO a0.uses N to h v) (λ d=>∃F,BI a0.uses N to F.length d F) N (λ h v ⟨_,_,_,_,_,hb⟩=>Nat.le_trans hb.hh hb.len) (λ h v hv=>amq (n:=n) (r1:=List.replicate N (-1)) hg hlr (by omega) v hv) n 0
  ((0:Nat),(List.replicate N (-1:Int)).set to 0,[to]) ⟨0,[to],rfl,Nat.zero_le _,rfl,hb0⟩ (by omega)
 refine⟨d,F,?_,h2⟩;have hdl:d.length=N:=h2.dl;have h1':iter (dX n a0 (List.replicate N (-1))) n (0,(List.replicate N (-1:Int)).set to 0,[to])=some d:=h1;simp only[kz,hd,hr,ai,hlr,aV ht,bG (show to<(List.replicate N (-1:Int)).length by omega),aj,show(((0:Nat):Int)+to).toNat=to by omega,h1];simp[sub,hdl];exact take_of_length_le (Nat.le_of_eq hdl)
def Nr(d:List Int)(l:List Int)(w:Int):Prop:=
 (w=-1/\∀k∈l,d.getD k.toNat 0<0)\/(w∈l/\0<=d.getD w.toNat 0/\∀k∈l,0<=d.getD k.toNat 0->d.getD w.toNat 0<=d.getD k.toNat 0)
theorem Nr.snoc{d l:List Int}{w k:Int}(h:Nr d l w)(hk:0<=k)(hl:∀x∈l,0<=x):Nr d (l++[k]) (if 0<=d.getD k.toNat 0/\(w<0\/d.getD k.toNat 0<d.getD w.toNat 0)then k else w):=by split;rename_i h1;refine .inr ⟨by simp,h1.1,λz hz h0=>?_⟩;rw[bL]at hz;rcases hz with hz|hz;rcases h with ⟨rfl,h⟩|⟨hw,hw0,h⟩;have:=h z hz;omega;have h2:=h z hz h0;have:=hl w hw;rcases h1.2 with h3|h3<;>omega;simp at hz;subst hz;exact Int.le_refl _;rename_i h1;rcases h with ⟨rfl,h⟩|⟨hw,hw0,h⟩;refine .inl ⟨rfl,λz hz=>?_⟩;rw[bL]at hz;rcases hz with hz|hz;exact h z hz;simp at hz;subst hz;exact Int.not_le.1 λh2=>h1 ⟨h2,.inl (by omega)⟩;refine .inr ⟨List.mem_append_left _ hw,hw0,λz hz h0=>?_⟩;rw[bL]at hz;rcases hz with hz|hz;exact h z hz h0;simp at hz;subst hz;exact Int.not_lt.1 λh2=>h1 ⟨h0,.inr h2⟩
theorem amr{n N:Nat}{d l:List Int}(hd:d.length=N)(hl:l.length<=4000000)(hr:∀k∈l,0<=k/\k<N)(hn:4000001<=n):∃w,iter (ja d l) n (-1,0)=some w/\Nr d l w:=by
 refine eO (λ i (v:Int×Int)=>i<=l.length/\v.2=i/\Nr d (l.take i) v.1) (λ w=>Nr d l w) l.length (λ k v h=>h.1) ?_ n 0 _ ⟨Nat.zero_le _,rfl,.inl ⟨rfl,by simp⟩⟩ (by omega);rintro i ⟨v3,v4⟩ ⟨hi,rfl,hN⟩;by_cases hlt:i<l.length;left;have hk:=hr l[i] (getElem_mem hlt);obtain⟨k,hk2⟩:=Int.eq_ofNat_of_zero_le hk.1;have hkN:k<d.length:=by omega
 have Jn:d[k]=d.getD k 0:=by simp[hkN]
 have htk:l.take (i+1)=l.take i++[l[i]]:=by rw[List.take_add_one,dm hlt];rfl
 have hlk:∀x∈l.take i,0<=x:=λx hx=>(hr x (List.mem_of_mem_take hx)).1;have hsn:=hN.snoc hk.1 hlk;refine⟨(if 0<=d.getD (l[i]).toNat 0/\(v3<0\/d.getD (l[i]).toNat 0<d.getD v3.toNat 0)then l[i]else v3,(i+1:Nat)),?_,hlt,rfl,by rw[htk];exact hsn⟩;simp only[ja,show decide ((i:Int)<l.length)=true from by simp;omega,aj,bJ hlt,ai,hk2,aV hkN,bG hkN,Jn,Int.toNat_natCast,aX i];by_cases h0:0<=d.getD k 0;by_cases h1:v3<0;simp only[h0,h1,decide_true,aj,ai,true_and,true_or,if_true];have hv:v3∈l.take i:=by rcases hN with ⟨rfl,_⟩|⟨h,_⟩;omega;exact h
 have B8:=hr v3 (List.mem_of_mem_take hv);obtain⟨z,hz⟩:=Int.eq_ofNat_of_zero_le B8.1;subst hz;have GG:z<d.length:=by omega
 have hgz:d[z]=d.getD z 0:=by simp[GG]
 simp only[h0,decide_true,aj,h1,decide_false,au,aV GG,bG GG,ai,hgz,Int.toNat_natCast,true_and,false_or];by_cases h2:d.getD k 0<d.getD z 0;simp only[h2,decide_true,aj,if_true,ai];simp only[h2,decide_false,au,if_false,ai];simp only[h0,decide_false,au,ai,false_and,if_false];right;refine⟨v3,?_,?_⟩;simp only[ja,show decide ((i:Int)<l.length)=false from by simp;omega,au];rw[take_of_length_le (by omega)]at hN;exact hN
theorem BI.step{us:List (List Int)}{N to h:Nat}{d:List Int}{F:List Nat}(b:BI us N to h d F){x:Nat}(hx:x<N)(hne:x≠to)(h0:0<=d.getD x 0):∃y:Nat,(y:Int)∈us.getD x []/\d.getD y 0=d.getD x 0-1/\0<=d.getD y 0:=by
 obtain⟨j,hj,hjx⟩:=mem_iff_getElem.1 ((b.mem x hx).1 h0);have hj':F[j]? =some x:=by rw[dm hj,hjx]
 have hj0:0<j:=by
  cases j with
  |zero=>rw[b.hd.1]at hj';cases hj';exact absurd rfl hne
  |succ j=>exact Nat.succ_pos _
 have⟨p,y,_,h2,h3,h4⟩:=b.pre j x hj' hj0;have hyF:=cB h2;exact⟨y,h3,h4,(b.mem y (b.rg y hyF)).2 hyF⟩
theorem ai4{n N fr:Nat}{a1:List gT}{us:List (List Int)}(hg:Yl us N)(hd:a1.length=N)(hn:4000003<=n)(hf:fr<N):∃d F c,BI us N fr F.length d F/\kD n fr a1 us=some (a1,us,c)/\c.length<=N+1/\(c=[]->∀k∈us.getD fr [],d.getD k.toNat 0<0):=by
 obtain⟨d,F,hdi,hb⟩:=abn (n:=n) (a0:=pE.mk a1 us) hg hd (by omega) hf;have hN:=hg.2.1;have GP:=hg.1;have hmx:maxLen=9223372036854775807:=rfl;have hloop:∃o,iter (lK n fr a1 us d) n (fr,[])=some o/\∃c,o=.inr (a1,us,c)/\c.length<=N+1/\(c=[]->∀k∈us.getD fr [],d.getD k.toNat 0<0):=by
  refine eO (λ k (v:Int×List ByteArray)=>∃at_:Nat,v.1=at_/\at_<N/\v.2.length=k/\k<=N/\((k=0/\at_=fr)\/(0<k/\at_≠fr/\0<=d.getD at_ 0/\d.getD at_ 0+k<=N))) _ N (λ k v ⟨_,_,_,_,h,_⟩=>h) ?_ n 0 _ ⟨fr,rfl,hf,rfl,Nat.zero_le _,.inl ⟨rfl,rfl⟩⟩ (by omega);rintro k ⟨v1,v2⟩ ⟨x,rfl,hx,hv2,hkN,hst⟩;simp at hv2;have hxa:x<a1.length:=by omega
  have hxu:x<us.length:=by omega
  have hl:=hg.2.2 us[x] (getElem_mem hxu);obtain⟨w,hw,hnr⟩:=amr (n:=n) (d:=d) (l:=us[x]) hb.dl hl.1 hl.2 (by omega);have hgu:us.getD x []=us[x]:=by simp[hxu]
  have hap:bP v2.length v2.length (sub [a1[x].name] 0 1).length 1 16=true:=by simp[bP,sub];omega
  simp only[lK,bJ hxa,bJ hxu,ai,hap,aj,gY,hw];have hsl:(v2++sub [a1[x].name] 0 1).length=k+1:=by simp[sub,hv2]
  have hne:((v2++sub [a1[x].name] 0 1).length==0)=false:=by rw[hsl];simp
  rcases hnr with ⟨rfl,hno⟩|⟨WF,hw0,hmin⟩;right;refine⟨.inr (a1,us,[]),by simp,[],rfl,by simp,λ_=>?_⟩;rcases hst with ⟨_,rfl⟩|⟨_,Wk,hx0,_⟩;rw[hgu];exact hno;have⟨y,hy,_,hy0⟩:=hb.step hx Wk hx0;have hy':(y:Int)∈us[x]:=by rw[<- hgu];exact hy
  have:=hno _ hy';simp only[Int.toNat_natCast]at this;omega;have hwr:=hl.2 w WF;obtain⟨z,rfl⟩:=Int.eq_ofNat_of_zero_le hwr.1;simp only[Int.toNat_natCast]at hw0 hmin;by_cases hzf:z=fr;right;subst hzf;refine⟨.inr (a1,us,v2++sub [a1[x].name] 0 1),?_,_,rfl,by omega,λh=>by rw[h]at hsl;simp at hsl⟩;simp only[show decide ((z:Int)<0)=false from by simp,au,beq_self_eq_true,aj,hne,Bool.not_false,Bool.true_and,aN,Option.map_some];left;have GG:z<N:=by omega
  have hb1:d.getD z 0+(k+1:Nat)<=N:=by rcases hst with ⟨hk0,rfl⟩|⟨_,Wk,hx0,hle⟩;have hzF:=(hb.mem z GG).1 hw0;obtain⟨j,hj,hjz⟩:=mem_iff_getElem.1 hzF;have h3:=hb.ub j z (by rw[dm hj,hjz]);have:=hb.len;omega;have⟨y,hy,hyd,hy0⟩:=hb.step hx Wk hx0;have:=hmin y (by rw[<- hgu];exact hy) (by simpa using hy0);simp only[Int.toNat_natCast]at this;omega
  refine⟨(z,v2++sub [a1[x].name] 0 1),?_,z,rfl,GG,hsl,by omega,.inr ⟨Nat.succ_pos _,hzf,hw0,hb1⟩⟩;simp[show decide ((z:Int)<0)=false from by simp,show((z:Int)==fr)=false from by simp;omega]
 obtain⟨o,h1,c,rfl,h2⟩:=hloop;refine⟨d,F,c,hb,?_,h2⟩;simp only[kD,hdi,ai,h1];simp
theorem abo(a b:ByteArray):∃r,nQ a b=some r:=by simp[nQ,cmp_isNaN_string];cases (!a.toList==a.toList)<;>cases (!b.toList==b.toList)<;>cases UR a b<;>cases (a.toList==b.toList)<;>exact⟨_,rfl⟩
theorem abp{a b:List ByteArray}(ha:a.length<=5000000)(hn:5000001<=n):∃r,l9 n a b=some r:=by
 obtain⟨o,h,_⟩:=eO (step:=l8 a b) (λ i v=>v=i/\i<=a.length) (λ _=>True) a.length (λ k v h=>h.2) (by
  rintro i v ⟨rfl,hi⟩;by_cases hlt:i<a.length;simp only[l8,show decide ((i:Int)<a.length)=true from by simp;omega,aj,bJ hlt,ai];by_cases hb:i<b.length;have⟨r,hr⟩:=abo a[i] b[i];simp only[show decide ((i:Int)>=b.length)=false from by simp;omega,au,bJ hb,ai,hr];cases hr0:(r !=0)with
  |true=>exact .inr ⟨_,rfl,trivial⟩
  |false=>exact .inl ⟨_,rfl,by rw[aR (by omega)],by omega⟩
  simp only[show decide ((i:Int)>=b.length)=true from by simp;omega,aj];exact .inr ⟨_,rfl,trivial⟩;simp only[l8,show decide ((i:Int)<a.length)=false from by simp;omega,au];exact .inr ⟨_,rfl,trivial⟩) n 0 0 ⟨rfl,Nat.zero_le _⟩ (by omega)
 simp only[l9,h];cases o with
 |inl u=>cases u;simp only[gF];cases decide ((a.length:Int)<b.length)<;>exact⟨_,rfl⟩
 |inr r=>exact⟨r,by simp⟩
def kw(us:List (List Int))(N j:Nat):Prop:=∃d F,BI us N j F.length d F/\∀k∈us.getD j [],d.getD k.toNat 0<0
theorem adD{n N:Nat}{a0:List gT}{us:List (List Int)}(hg:Yl us N)(hd:a0.length=N)(hn:5000003<=n):∃c,jv n a0 us=some (a0,us,c)/\(c=[]->∀j,j<N->kw us N j)/\c.length<=N+1:=by
 have hN:=hg.2.1
 obtain⟨o,h1,c,rfl,h2⟩:=eO (step:=iH n a0) (λ i (v:Int×List gT×List (List Int)×List ByteArray)=>∃c,v=((i:Int),a0,us,c)/\i<=N/\c.length<=N+1/\(c=[]->∀j,j<i->kw us N j))
  (λ o=>∃c,o=(a0,us,c)/\(c=[]->∀j,j<N->kw us N j)/\c.length<=N+1) N (λ k v ⟨_,_,h,_⟩=>h) (by
  rintro i v ⟨c,rfl,hi,hcl,hc⟩;by_cases hlt:i<N;left;obtain⟨d,F,c2,hb,hci,aoR,hc2⟩:=ai4 (n:=n) (a1:=a0) hg hd (by omega) hlt;simp only[iH,show decide ((i:Int)<a0.length)=true from by simp;omega,aj,hci,ai,aX i,jq,aN];have hfin:∀c':List ByteArray,c'.length<=N+1->(c'=[]->c=[]/\c2=[])->∃c'',(((i+1:Nat):Int),a0,us,c')=(((i+1:Nat):Int),a0,us,c'')/\i+1<=N/\c''.length<=N+1/\(c''=[]->∀j,j<i+1->kw us N j):=λc' hl' he=>
   ⟨c',rfl,hlt,hl',λe j hj=>by have⟨e1,e2⟩:=he e;by_cases h:j=i;subst h;exact⟨d,F,hb,hc2 e2⟩;exact hc e1 j (by omega)⟩
  obtain⟨r,hr⟩:=abp (n:=n) (a:=c2) (b:=c) (by omega) (by omega);cases h0:(c2.length==0)with
  |true=>
   have e2:c2=[]:=List.eq_nil_of_length_eq_zero (by simpa using h0);exact⟨_,by simp,hfin c hcl λe=>⟨e,e2⟩⟩
  |false=>
   have hne:c2≠[]:=λe=>(by rw[e]at h0;simp at h0);simp only[au,ai];have key:∃b,(bif c.length==0 then some true else bif decide ((c2.length:Int)<c.length)then some true else bif(c2.length:Int)==c.length then(l9 n c2 c).bind λr2=>some (decide (r2<0))else some false)=some b/\(c.length=0->b=true):=by
    cases h3:(c.length==0)with
    |true=>exact⟨true,rfl,λ_=>rfl⟩
    |false=>
     have hcn:c.length≠0:=(by simpa using h3);simp only[au,hr,ai];cases decide ((c2.length:Int)<c.length)<;>cases ((c2.length:Int)==c.length)<;>exact⟨_,rfl,λe=>absurd e hcn⟩
   obtain⟨b,hb1,hb2⟩:=key;rw[hb1];cases b with
   |true=>exact⟨_,by simp,hfin c2 aoR λe=>absurd e hne⟩
   |false=>exact⟨_,by simp,hfin c hcl λe=>by rw[e]at hb2;exact absurd (hb2 rfl) (by simp)⟩
  right;refine⟨(a0,us,c),?_,c,rfl,λe j hj=>hc e j (by omega),hcl⟩;simp only[iH,show decide ((i:Int)<a0.length)=false from by simp;omega,au,aN,aj]) n 0 (0,a0,us,[]) ⟨[],rfl,Nat.zero_le _,by simp,λ_ j hj=>absurd hj (Nat.not_lt_zero _)⟩ (by omega)
 exact⟨c,by simp[jv,h1],h2⟩
theorem BI.back{us:List (List Int)}{N to:Nat}{d:List Int}{F:List Nat}(b:BI us N to F.length d F){i y:Nat}(hi:i<N)(hy:y<N)(h:(y:Int)∈us.getD i [])(h0:0<=d.getD y 0):0<=d.getD i 0:=by obtain⟨j,hj,hjy⟩:=mem_iff_getElem.1 ((b.mem y hy).1 h0);exact b.cl j y hj (by rw[dm hj,hjy]) i hi h
theorem ams{us:List (List Int)}{N:Nat}(hg:Yl us N)(hf:∀j,j<N->kw us N j)(done:Nat->Prop){i0:Nat}(h0:i0<N)(hd0:¬done i0):∃i,i<N/\¬done i/\∀k∈us.getD i [],done k.toNat:=by
 refine uL λhno=>?_;have hstep:∀i:{i:Nat // i<N/\¬done i},∃k:{k:Nat // k<N/\¬done k},(k.1:Int)∈us.getD i.1 []:=by
  rintro⟨i,hi,hnd⟩;refine uL λh=>hno ⟨i,hi,hnd,λk hk=>uL λhkd=>h ?_⟩;have hl:us.getD i []∈us:=by have:i<us.length:=(by rw[hg.1];exact hi);simp[this]
  have hr:=(hg.2.2 _ hl).2 k hk;exact⟨⟨k.toNat,by omega,hkd⟩,by show(k.toNat:Int)∈_;rw[Int.toNat_of_nonneg hr.1];exact hk⟩
 obtain⟨f,hfs⟩:=Classical.axiomOfChoice hstep
 let g:Nat->{i:Nat // i<N/\¬done i}:=λj=>Nat.rec ⟨i0,h0,hd0⟩ (λ _ x=>f x) j
 have hgs:∀j,((g (j+1)).1:Int)∈us.getD (g j).1 []:=λj=>hfs (g j);have hnd:¬((List.range (N+1)).map λj=>(g j).1).Nodup:=λh=>by
  have:=HZ N _ h λy hy=>by obtain⟨j,_,rfl⟩:=mem_map.1 hy;exact(g j).2.1
  rw[length_map,List.length_range]at this;omega
 obtain⟨a,b,hab,he⟩:∃a b,a<b/\(g a).1=(g b).1:=by refine uL λh=>hnd ?_;rw[List.nodup_iff_pairwise_ne,List.pairwise_map];exact List.pairwise_lt_range.imp λ{x y} hxy e=>h ⟨x,y,hxy,e⟩
 obtain⟨d,F,hb,hneg⟩:=hf _ (g a).2.1;have hall:∀c,a<b-c->c<b-a->0<=d.getD (g (b-c)).1 0:=by
  intro c
  induction c with
  |zero=>intro _ _;rw[Nat.sub_zero,<- he,hb.hd.2];exact Int.le_refl _
  |succ c ih=>
   intro h1 h2;have:=ih (by omega) (by omega);have e:b-c=b-(c+1)+1:=(by omega);rw[e]at this;exact hb.back (g (b-(c+1))).2.1 (g (b-(c+1)+1)).2.1 (hgs (b-(c+1))) this
 have h1:=hall (b-a-1) (by omega) (by omega);have e:b-(b-a-1)=a+1:=by omega
 rw[e]at h1;have h2:=hneg _ (hgs a);simp only[Int.toNat_natCast]at h2;omega
theorem adE{n N:Nat}{l:List Int}{done:List Bool}(hd:done.length=N)(hl:l.length<=4000000)(hr:∀k∈l,0<=k/\k<N)(hn:4000001<=n):
 ∃r,iT n l done=some (r,done)/\(r=false↔∀k∈l,done.getD k.toNat false=true):=by
 obtain⟨o,h1,h2⟩:=eO (step:=kC l) (λ i (v:Int×List Bool)=>v=((i:Int),done)/\i<=l.length/\∀k∈l.take i,done.getD k.toNat false=true)
  (λ o=>(o=.inl done/\∀k∈l,done.getD k.toNat false=true)\/∃i:Nat,o=.inr (i,done)/\∃k∈l,done.getD k.toNat false=false) l.length (λ k v h=>h.2.1) (by
  rintro i v ⟨rfl,hi,hall⟩;by_cases hlt:i<l.length;have hk:=hr l[i] (getElem_mem hlt);obtain⟨k,hk2⟩:=Int.eq_ofNat_of_zero_le hk.1;have hkN:k<done.length:=by omega
  have Jn:done[k]=done.getD k false:=by simp[hkN]
  have htk:l.take (i+1)=l.take i++[l[i]]:=by rw[List.take_add_one,dm hlt];rfl
  simp only[kC,show decide ((i:Int)<l.length)=true from by simp;omega,aj,bJ hlt,ai,aN,hk2,mO,aV hkN,bG hkN,Jn];cases hdk:done.getD k false with
  |true=>
   refine .inl ⟨_,by simp;rfl,by rw[aR (by omega)],hlt,λz hz=>?_⟩;rw[htk,bL]at hz;rcases hz with hz|hz;exact hall z hz;simp at hz;rw[hz,hk2];simpa using hdk
  |false=>exact .inr ⟨_,by simp,.inr ⟨i,rfl,l[i],getElem_mem hlt,by rw[hk2];simpa using hdk⟩⟩
  refine .inr ⟨.inl done,?_,.inl ⟨rfl,by rw[take_of_length_le (by omega)]at hall;exact hall⟩⟩;simp only[kC,show decide ((i:Int)<l.length)=false from by simp;omega,au,aN,aj]) n 0 (0,done) ⟨rfl,Nat.zero_le _,by simp⟩ (by omega)
 rcases h2 with ⟨rfl,h2⟩|⟨i,rfl,k,hk,hkd⟩;exact⟨false,by simp[iT,ni,h1],λ_=>h2,λ_=>rfl⟩;refine⟨true,by simp[iT,ni,h1],λh=>(by cases h),λh=>?_⟩;rw[h k hk]at hkd;cases hkd
def Ok(us:List (List Int))(N:Nat)(done:List Bool)(i:Nat)(w:Int):Prop:=
 (w=-1/\∀j,j<i->¬(done.getD j false=false/\∀k∈us.getD j [],done.getD k.toNat false=true))\/∃j:Nat,w=j/\j<i/\done.getD j false=false
theorem akX{n N:Nat}{a0:pE}{done:List Bool}(hg:Yl a0.uses N)(hd:a0.defs.length=N)(hl:done.length=N)(hn:4000002<=n):∃w,iter (jf n a0) n (-1,0,done)=some (w,done)/\Ok a0.uses N done N w:=by
 have hN:=hg.2.1;have GP:=hg.1;obtain⟨o,h1,w,rfl,h2⟩:=eO (step:=jf n a0) (λ i (v:Int×Int×List Bool)=>∃w,v=(w,(i:Int),done)/\i<=N/\Ok a0.uses N done i w) (λ o=>∃w,o=(w,done)/\Ok a0.uses N done N w) N (λ k v ⟨_,_,h,_⟩=>h) (by
  rintro i v ⟨w,rfl,hi,hw⟩;by_cases hlt:i<N;left;have hiu:i<a0.uses.length:=by omega
  have hid:i<a0.defs.length:=by omega
  have hib:i<done.length:=by omega
  have hl2:=hg.2.2 a0.uses[i] (getElem_mem hiu);obtain⟨r,hr1,hr2⟩:=adE (n:=n) hl hl2.1 hl2.2 (by omega);have hgi:a0.uses.getD i []=a0.uses[i]:=by simp[hiu]
  have hdi:done[i]=done.getD i false:=by simp[hib]
  simp only[jf,show decide ((i:Int)<a0.uses.length)=true from by simp;omega,aj,bJ hiu,ai,aN,hr1,aV hib,bG hib,hdi,aX i];have keep:(done.getD i false=true\/r=true)->Ok a0.uses N done (i+1) w:=by intro hno;rcases hw with ⟨rfl,hw⟩|⟨j,rfl,hj,hw⟩;refine .inl ⟨rfl,λj hj h=>?_⟩;by_cases e:j=i;subst e;rw[hgi]at h;rcases hno with h3|h3;rw[h3]at h;exact absurd h.1 (by simp);have:=hr2.2 h.2;rw[h3]at this;cases this;exact hw j (by omega) h;exact .inr ⟨j,rfl,by omega,hw⟩
  cases hdn:done.getD i false with
  |true=>exact⟨_,by simp,w,rfl,hlt,keep (.inl hdn)⟩
  |false=>
   cases r with
   |true=>exact⟨_,by simp,w,rfl,hlt,keep (.inr rfl)⟩
   |false=>
    have al:Ok a0.uses N done (i+1) i:=.inr ⟨i,rfl,by omega,hdn⟩;rcases hw with ⟨rfl,hw⟩|⟨j,rfl,hj,hw⟩;exact⟨_,by simp,_,rfl,hlt,al⟩;have hjd:j<a0.defs.length:=(by omega);simp only[Bool.not_false,aj,show decide (j<0)=false from by simp,au,bJ hid,bJ hjd,ai];cases UR a0.defs[i].name a0.defs[j].name with
    |true=>exact⟨_,rfl,_,rfl,hlt,al⟩
    |false=>exact⟨_,rfl,_,rfl,hlt,.inr ⟨j,rfl,by omega,hw⟩⟩
  right;have hiN:i=N:=by omega
  refine⟨(w,done),?_,w,rfl,hiN ▸ hw⟩;simp only[jf,show decide ((i:Int)<a0.uses.length)=false from by simp;omega,au,aN,aj]) n 0 (-1,0,done) ⟨_,rfl,Nat.zero_le _,.inl ⟨rfl,λj hj=>absurd hj (Nat.not_lt_zero _)⟩⟩ (by omega)
 exact⟨w,h1,h2⟩
theorem akY{n N:Nat}{a0:pE}(hg:Yl a0.uses N)(hd:a0.defs.length=N)(hf:∀j,j<N->kw a0.uses N j)(hn:4000002<=n):∃l,nR n a0=some l/\l.length=N/\∀k∈l,0<=k/\k<N:=by
 have hN:=hg.2.1;have hmx:maxLen=9223372036854775807:=rfl
 obtain⟨o,h1,h2⟩:=eO (step:=lD n a0) (λ c (v:Int×List Int×List Bool)=>∃out done,v=((c:Int),out,done)/\c<=N/\out.length=c/\(∀ k∈out,0<=k/\k<N)/\done.length=N/\done.count false=N-c)
  (λ o=>o.length=N/\∀k∈o,0<=k/\k<N) N (λ k v ⟨_,_,_,h,_⟩=>h) (by
  rintro c v ⟨out,done,rfl,hc,hol,hor,hdl,hcf⟩;by_cases hlt:c<N;left;have⟨w,hw1,hw2⟩:=akX (n:=n) hg hd hdl hn;have hopen:∃i0,i0<N/\done.getD i0 false=false:=by have hm:false∈done:=List.count_pos_iff.1 (by omega);obtain⟨i0,h0,e⟩:=mem_iff_getElem.1 hm;exact⟨i0,by omega,by simp[h0,e]⟩
  obtain⟨i0,h0,h0d⟩:=hopen;obtain⟨i,hi,hid,hia⟩:=ams hg hf (λ j=>done.getD j false=true) h0 (by rw[h0d];simp);rcases hw2 with ⟨rfl,hw2⟩|⟨j,rfl,hj,hjd⟩;exact absurd ⟨Bool.eq_false_iff.2 hid,hia⟩ (hw2 i hi);have hjl:j<done.length:=by omega
  have hap:bP out.length out.length (sub [(j:Int)] 0 1).length 1 8=true:=by simp[bP,sub];omega
  have hset:(done.set j true).length=done.length:=by simp
  refine⟨((c+1:Nat),out++[(j:Int)],done.set j true),?_,_,_,rfl,hlt,by simp[hol],?_,by simp[hdl],?_⟩;simp only[lD,show decide ((c:Int)<a0.defs.length)=true from by simp;omega,aj,aN,hw1,ai,aV hjl,bG hjl,hap,gY,aX c,show(((0:Nat):Int)+j).toNat=j by omega,pz hset.symm];simp[sub];intro k hk;rw[bL]at hk;rcases hk with hk|hk;exact hor k hk;simp at hk;subst hk;omega;have hjf:done[j]=false:=by simpa[List.getD,hjl]using hjd
  rw[List.count_set hjl,hcf,hjf];simp;omega;right;have:c=N:=by omega
  refine⟨out,?_,by omega,hor⟩;simp only[lD,show decide ((c:Int)<a0.defs.length)=false from by simp;omega,au,aN,aj]) n 0 (0,[],List.replicate N false) ⟨[],_,rfl,Nat.zero_le _,rfl,by simp,by simp,by simp⟩ (by omega)
 refine⟨o,?_,h2⟩;have hmk:wC N 1=true:=by simp[wC];omega
 simp only[nR,hd,Int.le_refl,decide_true,Bool.true_and,show decide (0<=N)=true from by simp,hmk,aj,Int.toNat_natCast,h1,ai,jq,aN];simp
def pc(out:List aK)(s:aK):List aK:=
 match out.getLast? with
 |some q=>bif decide (s.from_<=q.to)then out.dropLast++[⟨q.from_,max q.to s.to⟩]else out++[s]
 |none=>[s]
theorem Wi out (s:aK):(pc out s).length<=out.length+1:=by
 unfold pc;cases out.getLast? with
 |none=>simp
 |some q=>simp;cases decide (s.from_<=q.to)<;>simp<;>omega
theorem af9 o (q s:aK):pc (o++[q]) s=bif decide (s.from_<=q.to)then o++[⟨q.from_,max q.to s.to⟩]else o++[q]++[s]:=by simp[pc]
abbrev FS(s:aK):Prop:=s.from_<s.to
def ia(l:List aK)(y:Int):Bool:=l.any λs=>decide (s.from_<=y)&&decide (y<s.to)
def Can(l:List aK):Prop:=l.Pairwise (λ a b=>a.to<b.from_)/\∀s∈l,FS s
theorem Na l y:ia l y=true↔∃s∈l,s.from_<=y/\y<s.to:=by simp[ia]
theorem Ey(l m:List aK) y:ia (l++m) y=(ia l y || ia m y):=by simp[ia]
theorem Js y:ia [] y=false:=rfl
theorem oo(s:aK) l y:ia (s::l) y=((decide (s.from_<=y)&&decide (y<s.to)) || ia l y):=by simp[ia]
theorem adF{l m:List aK}(h:l.Perm m) y:ia l y=ia m y:=by rw[kS,Na,Na];exact⟨λ ⟨s,hs,h1⟩=>⟨s,h.mem_iff.1 hs,h1⟩,λ⟨s,hs,h1⟩=>⟨s,h.mem_iff.2 hs,h1⟩⟩
theorem ahS:Can []:=⟨List.Pairwise.nil,by simp⟩
theorem akZ{out:List aK}{s:aK}(hc:Can out)(hs:FS s)(hb:∀o∈out,o.from_<=s.from_):
 Can (pc out s)/\(∀ o∈pc out s,o.from_<=s.from_)/\∀y,ia (pc out s) y=(ia out y || ia [s] y):=by rcases List.eq_nil_or_concat out with rfl|⟨o,q,rfl⟩;refine⟨⟨by simp[pc],by simp[pc];exact hs⟩,by simp[pc],λy=>by simp[pc,ia]⟩;rw[List.concat_eq_append]at*;obtain⟨h1,h2⟩:=hc;rw[pairwise_append]at h1;obtain⟨p1,_,p3⟩:=h1;have hq:FS q:=h2 q (by simp);have hqs:q.from_<=s.from_:=hb q (by simp);rw[af9];by_cases hj:s.from_<=q.to;simp only[hj,decide_true,aj];refine⟨⟨?_,?_⟩,?_,?_⟩;rw[pairwise_append];refine⟨p1,by simp,λa ha b hb'=>?_⟩;rw[bq]at hb';subst hb';exact p3 a ha q (by simp);intro a ha;rcases bL.1 ha with ha|ha;exact h2 a (by simp[ha]);rw[bq]at ha;subst ha;show q.from_<max q.to s.to;have:q.from_<q.to:=hq;omega;intro a ha;rcases bL.1 ha with ha|ha;exact hb a (by simp[ha]);rw[bq]at ha;subst ha;exact hqs;intro y;rw[Ey,Ey,Bool.or_assoc];congr 1;simp[oo,Js];rw[kS];simp;have:q.from_<q.to:=hq;have:s.from_<s.to:=hs;omega;simp only[hj,decide_false,au];refine⟨⟨?_,?_⟩,?_,?_⟩;rw[pairwise_append];refine⟨?_,by simp,λa ha b hb'=>?_⟩;rw[pairwise_append];exact⟨p1,by simp,p3⟩;rw[bq]at hb';subst hb';rcases bL.1 ha with ha|ha;have:=p3 a ha q (by simp);have:q.from_<q.to:=hq;omega;rw[bq]at ha;subst ha;omega;intro a ha;rcases bL.1 ha with ha|ha;exact h2 a ha;rw[bq]at ha;subst ha;exact hs;intro a ha;rcases bL.1 ha with ha|ha;exact hb a ha;rw[bq]at ha;subst ha;exact Int.le_refl _;intro y;rw[Ey]
theorem Py:∀(l out:List aK),Can out->(∀ s∈l,FS s)->l.Pairwise (λ x y=>x.from_<=y.from_)->(∀ o∈out,∀s∈l,o.from_<=s.from_)->Can (l.foldl pc out)/\∀y,ia (l.foldl pc out) y=(ia out y || ia l y)
 |[],out,hc,_,_,_=>⟨hc,λy=>by simp[Js]⟩
 |s::l,out,hc,hv,hp,hb=>by rw[pairwise_cons]at hp;obtain⟨m1,m2,m3⟩:=akZ hc (hv s (by simp)) (λ o ho=>hb o ho s (by simp));obtain⟨f1,f2⟩:=Py l (pc out s) m1 (λ t ht=>hv t (by simp[ht])) hp.2 (λ o ho t ht=>Int.le_trans (m2 o ho) (hp.1 t ht));refine⟨f1,λy=>?_⟩;rw[foldl_cons,f2,m3,Bool.or_assoc,<- Ey];rfl
theorem adG{a:aK}{l:List aK}(h:Can (a::l)):Can l:=⟨(pairwise_cons.1 h.1).2,λs hs=>h.2 s (by simp[hs])⟩
theorem Jt{a:aK}{l:List aK}(h:Can (a::l)){y:Int}(hy:ia l y=true):a.to<y:=by obtain⟨s,hs,h1,_⟩:=(Na _ _).1 hy;have:=(pairwise_cons.1 h.1).1 s hs;omega
theorem ZR{a:aK}{l:List aK}(h:Can (a::l)){y:Int}(hy:ia (a::l) y=true):a.from_<=y:=by rw[oo,Bool.or_eq_true]at hy;rcases hy with hy|hy;simp at hy;exact hy.1;have:=Jt h hy;have:a.from_<a.to:=h.2 a (by simp);omega
theorem Wj:∀{l m:List aK},Can l->Can m->(∀ y,ia l y=ia m y)->l=m
 |[],[],_,_,_=>rfl
 |[],b::m,_,hm,h=>by have:=h b.from_;have hb:b.from_<b.to:=hm.2 b (by simp);rw[Js,oo]at this;simp[hb]at this
 |a::l,[],hl,_,h=>by have:=h a.from_;have ha:a.from_<a.to:=hl.2 a (by simp);rw[Js,oo]at this;simp[ha]at this
 |a::l,b::m,hl,hm,h=>by
  have ha:a.from_<a.to:=hl.2 a (by simp);have hb:b.from_<b.to:=hm.2 b (by simp);have ina:ia (a::l) a.from_=true:=by rw[oo];simp[ha]
  have V1:ia (b::m) b.from_=true:=by rw[oo];simp[hb]
  have e1:a.from_=b.from_:=by have h1:=ZR hm (by rw[<- h];exact ina);have h2:=ZR hl (by rw[h];exact V1);omega
  have nl:∀(c:aK) k,Can (c::k)->ia (c::k) c.to=false:=by
   intro c k hk;cases hc:ia (c::k) c.to with
   |false=>rfl
   |true=>
    rw[oo,Bool.or_eq_true]at hc;rcases hc with hc|hc;simp at hc;have:=Jt hk hc;omega
  have e2:a.to=b.to:=by rcases Int.lt_trichotomy a.to b.to with hlt|he|hlt;have h1:=nl a l hl;rw[h,oo]at h1;simp at h1;omega;exact he;have h1:=nl b m hm;rw[<- h,oo]at h1;simp at h1;omega
  have e:a=b:=by cases a;cases b;simp at e1 e2;rw[e1,e2]
  subst e;rw[Wj (adG hl) (adG hm) λy=>?_];have hy:=h y;rw[oo,oo]at hy;cases h1:ia l y with
  |true=>
   have:=Jt hl h1;have z:(decide (a.from_<=y)&&decide (y<a.to))=false:=(by rw[Bool.and_eq_false_iff,dL,dL];omega);rw[z,h1,Bool.false_or,Bool.false_or]at hy;rw[<- hy]
  |false=>
   cases h2:ia m y with
   |false=>rfl
   |true=>
    have:=Jt hm h2;have z:(decide (a.from_<=y)&&decide (y<a.to))=false:=(by rw[Bool.and_eq_false_iff,dL,dL];omega);rw[z,h1,h2]at hy;simp at hy
def E2(l:List aK):List aK:=(kV tA l).foldl pc []
theorem ak0{l:List aK}(h:l.Pairwise λx y=>tA y x=false):l.Pairwise λx y=>x.from_<=y.from_:=
 h.imp λ{x y} hxy=>by simp at hxy;omega
theorem ZT{l:List aK}(h:∀s∈l,FS s):Can (E2 l)/\∀y,ia (E2 l) y=ia l y:=by have hp:=Eb tA l;obtain⟨h1,h2⟩:=Py (kV tA l) [] ahS (λ s hs=>h s (hp.mem_iff.1 hs)) (ak0 (akw M9 l)) (by simp);exact⟨h1,λy=>by rw[E2,h2,Js,Bool.false_or,adF hp]⟩
theorem ai5{l:List aK}(h:∀s∈l,FS s):(rV tA l).foldl pc []=E2 l:=by have hp:=VK M9 l;obtain⟨h1,h2⟩:=Py (rV tA l) [] ahS (λ s hs=>h s (hp.mem_iff.1 hs)) (ak0 (aa9 M9 l)) (by simp);have⟨h3,h4⟩:=ZT h;exact Wj h1 h3 λy=>by rw[h2,Js,Bool.false_or,adF hp,h4]
theorem adH l:(E2 l).length<=l.length:=by
 have:∀(ys out:List aK),(ys.foldl pc out).length<=out.length+ys.length:=by
  intro ys
  induction ys with
  |nil=>intro out;simp
  |cons y ys ih=>
   intro out;simp;have:=ih (pc out y);have:=Wi out y;omega
 have h:=this (kV tA l) [];rw[eT]at h;simpa[E2]using h
abbrev d6(r:ax):Bool:=decide (0<=r.x0)&&(decide (r.x0<r.x1)&&(decide (r.x1<=1048576)&&(decide (0<=r.y0)&&(decide (r.y0<r.y1)&&decide (r.y1<=1048576)))))
theorem S3(a b:Bool):(bif a then some b else some false)=some (a&&b):=by cases a<;>rfl
theorem jS(r:ax):oO r=some (d6 r):=by simp[oO,S3]
def lH(l:List ax)(x:Int):List aK:=(l.filter λr=>decide (r.x0<=x)&&decide (x<r.x1)).map λr=>⟨r.y0,r.y1⟩
def dh(l:List ax)(x:Int):List aK:=E2 (lH l x)
theorem H6 l x:(lH l x).length<=l.length:=by simp[lH];exact length_filter_le _ _
theorem yO l x:(dh l x).length<=l.length:=
 Nat.le_trans (adH _) (H6 l x)
theorem aoq{r:ax}(h:d6 r=true):r.y0<r.y1:=by simp at h;omega
theorem Wl{l:List ax}(h:∀r∈l,d6 r=true) x:∀s∈lH l x,FS s:=by intro s hs;simp[lH]at hs;obtain⟨r,⟨hr,_⟩,rfl⟩:=hs;exact aoq (h r hr)
theorem Pz{l:List ax}{x:Int}(hl:l.length<1099511627776){n:Nat}(hn:l.length<n):iter (tu l x) n (0,[])=some (lH l x):=by
 have:=gL (l:=l) (step:=tu l x) (λ i s=>(i,s)) (λ r s=>bif decide (r.x0<=x)&&decide (x<r.x1)then s++[⟨r.y0,r.y1⟩]else s) (λ s=>s) (λ i s=>s.length<=i)
  (λ i hi s hs=>?_) (λ s hs=>by simp[tu]) n hn [] (aA _)
 rw[ll]at this;rw[this];congr 1;have gen:∀ys s,ys.foldl (λ s r=>bif decide (r.x0<=x)&&decide (x<r.x1)then s++[⟨r.y0,r.y1⟩]else s) s=s++lH ys x:=by
  intro ys
  induction ys with
  |nil=>intro s;simp[lH]
  |cons y ys ih=>
   intro s;simp[ih];cases h:(decide (y.x0<=x)&&decide (x<y.x1))with
   |true|false=>simp[lH,h]
 simpa using gen l [];have hi':decide ((i:Int)<l.length)=true:=by simpa using hi
 have ap:bP s.length s.length (sub ([(aK.mk l[i].y0 l[i].y1)]:List aK) 0 1).length 1 16=true:=eY (n:=1) (by omega) (by simp[maxLen];omega);simp only[tu,hi',aj,bJ hi,ai,S3];cases h:(decide (l[i].x0<=x)&&decide (x<l[i].x1))with
 |true=>
  simp only[aj,ap,gY,aN,ai];refine⟨?_,by simp;omega⟩;rw[aR (by omega)];rfl
 |false=>
  simp only[au,aN,aj,ai];exact⟨by rw[aR (by omega)],by omega⟩
theorem PD(w1 r2:List aK)(hw:w1.length=r2.length)(hl:r2.length<1099511627776)(hn:r2.length<n):iter (tC w1 r2) n (0,[])=some (r2.foldl pc []):=by
 have:=gL (l:=r2) (step:=tC w1 r2) (λ i s=>(i,s)) (λ r s=>pc s r) (λ s=>s) (λ i s=>s.length<=i)
  (λ i hi s hs=>?_) (λ s hs=>by simp[tC,hw]) n hn [] (aA _)
 rw[ll]at this;exact this;refine⟨?_,by have:=Wi s r2[i];omega⟩;have hi':decide ((i:Int)<(w1.length:Nat))=true:=by simp;omega
 have ib:ct i w1.length=true:=aV (by omega);have ap:bP s.length s.length (sub ([r2[i]]:List aK) 0 1).length 1 16=true:=eY (n:=1) (by omega) (by simp[maxLen];omega);simp only[tC,hi',aj,ib,bG hi,ai];rcases List.eq_nil_or_concat s with rfl|⟨s0,q,Is⟩;have d0:decide ((([]:List aK).length:Nat)>0)=false:=by simp
 simp;rw[aR (by omega)];rfl;rw[List.concat_eq_append]at Is;subst Is;have d0:decide (((((s0++[q]).length:Nat):Int))>0)=true:=by simp<;>omega
 have B3:(s0++[q]).length=s0.length+1:=by simp
 have wp:i64.wrap (((s0++[q]).length:Nat)-1)=(s0.length:Nat):=by rw[nu (by simp) (by omega),B3];rfl
 have V2:ct (s0.length:Nat) (s0++[q]).length=true:=aV (by omega);have g:bz (s0++[q]) ((0:Nat)+(s0.length:Nat))=some q:=by rw[oM];simp
 have z:(((0:Nat):Int)+(s0.length:Nat)).toNat=s0.length:=by simp
 have st:(s0++[q]).set s0.length (aK.mk q.from_ (max q.to r2[i].to))=s0++[⟨q.from_,max q.to r2[i].to⟩]:=by simp
 have m:pc (s0++[q]) r2[i]=bif decide (r2[i].from_<=q.to)then s0++[⟨q.from_,max q.to r2[i].to⟩]else s0++[q]++[r2[i]]:=by simp[pc]
 simp only[d0,aj,wp,V2,g,ai,m,z,st];cases decide (r2[i].from_<=q.to)with
 |true=>
  have e:aE (s0++[q]).length (s0++[(⟨q.from_,max q.to r2[i].to⟩:aK)]).length=true:=by simp
  simp only[aj,e,ai,aN];rw[aR (by omega)]
 |false=>
  simp only[au,ap,aj,gY,aN,ai];rw[aR (by omega)];rfl
theorem abr{l:List ax}{x:Int}(hv:∀r∈l,d6 r=true)(hl:l.length<1099511627776)(hn:l.length<n):Jl n l x=some (dh l x):=by have h1:=H6 l x;have h2:(rV tA (lH l x)).length=(lH l x).length:=D9 M9 _;unfold Jl;simp[Pz (x:=x) (l:=l) (by omega) (n:=n) (by omega)];rw[JC (λ a b=>if a.from_<b.from_ then -1 else if b.from_<a.from_ then 1 else 0) (λ a b=>by show xq a b=_;unfold xq;rw[jm];rfl) (λ a b=>by by_cases h1:a.from_<b.from_;simp[h1];by_cases h2:b.from_<a.from_<;>simp[h1,h2]) (by omega) (by omega)];simp;rw[PD _ _ h2.symm (by omega) (by omega)];simp;rw[ai5 (Wl hv x)];rfl
def iJ(l:List ax):List Int:=Hd (l.flatMap λr=>[r.x0,r.x1])
def jT{α:Type}(f:Int->Int->α):List Int->List α
 |a::b::l=>f a b::jT f (b::l)
 |_=>[]
def bg(l:List ax):List bQ:=jT (λ a b=>⟨a,b,dh l a⟩) (iJ l)
theorem rP{α:Type}(f:Int->Int->α):∀l,(jT f l).length=l.length-1/\∀i (h:i+1<l.length) (h':i<(jT f l).length),(jT f l)[i]=f l[i] l[i+1]
 |[]|[a]=>⟨rfl,λi h=>by simp at h⟩
 |a::b::l=>by
  have⟨h1,h2⟩:=rP f (b::l);refine⟨by simp only[jT,fU,h1];simp,λi h h'=>?_⟩;cases i with
  |zero=>rfl
  |succ i=>
   simp;exact h2 i (by simpa using h) _
theorem wu(l:List ax):(l.flatMap λr=>[r.x0,r.x1]).length=2*l.length:=by
 induction l with
 |nil=>rfl
 |cons x l ih=>simp[ih];omega
theorem rD l:(jc l).length<=l.length:=by
 match l with
 |[]|[x]=>simp[jc]
 |x::y::l=>
  have:=rD (y::l);simp[jc];cases x==y<;>simp at* <;>omega
theorem Kn l:(iJ l).length<=2*l.length:=by have h:=rD (kV (λ a b=>decide (a<b)) (l.flatMap λr=>[r.x0,r.x1]));rw[eT,wu]at h;exact h
theorem PE{l:List ax}(hl:l.length<10995116277)(hn:l.length<n):iter (tF l) n (0,[])=some (l.flatMap λr=>[r.x0,r.x1]):=by
 have:=gL (l:=l) (step:=tF l) (λ i s=>(i,s)) (λ r s=>s++[r.x0,r.x1]) (λ s=>s) (λ i s=>s.length<=2*i)
  (λ i hi s hs=>?_) (λ s hs=>by simp[tF]) n hn [] (aA _)
 rw[ll]at this;rw[this];have gen:∀(ys:List ax) s,ys.foldl (λ s r=>s++[r.x0,r.x1]) s=s++ys.flatMap λr=>[r.x0,r.x1]:=by
  intro ys
  induction ys with
  |nil=>intro s;simp
  |cons y ys ih=>intro s;simp[ih]
 congr 1;simpa using gen l [];have hi':decide ((i:Int)<(l.length:Nat))=true:=by simpa using hi
 have ap:bP s.length s.length (sub ([l[i].x0,l[i].x1]:List Int) 0 2).length 2 8=true:=eY (n:=2) (by omega) (by simp[maxLen];omega);simp only[tF,hi',aj,aV hi,bG hi,ai,ap,gY,aN];refine⟨?_,by simp;omega⟩;rw[aR (by omega)];rfl
theorem xI{ls:List (List ax)}(hv:∀r∈ls.flatten,d6 r=true)(hl:ls.flatten.length<10995116277)(hls:ls.length<1099511627776)(hn:2*ls.flatten.length<n)(hn2:ls.length<n):oF n ls=some (bg ls.flatten):=by
 unfold oF;rw[M8 (by omega) hls hn2];generalize ls.flatten=l at*;have he:=Kn l;simp[PE (l:=l) (n:=n) (by omega) (by omega)];rw[pO (by rw[wu];omega) (by rw[wu];omega)];simp only[ai,eT,aN,aj];rw[tY (by rw[eT,wu];omega) (by rw[eT,wu];omega)];simp only[ai];have hE:jc (kV ot (l.flatMap λr=>[r.x0,r.x1]))=iJ l:=rfl;rw[hE];obtain⟨p1,p2⟩:=rP (λ a b=>(⟨a,b,dh l a⟩:bQ)) (iJ l);have key:iter (tH n l ((),iJ l)) n (1,[])=some (bg l):=by
  have:=mY (step:=tH n l ((),iJ l)) (λ i=>((i+1:Nat),(bg l).take i)) (bg l).length (bg l) (λ i hi=>?_) ?_ n (by unfold bg;omega);simpa using this;have hi2:i+1<(iJ l).length:=by unfold bg at hi;omega
  have d:decide (((i+1:Nat):Int)<((iJ l).length:Nat))=true:=by simp;omega
  have wp:i64.wrap ((i+1:Nat)-1)=(i:Nat):=by rw[nu (by omega) (by omega)];rfl
  have ap:bP ((bg l).take i).length ((bg l).take i).length (sub ([(bQ.mk ((iJ l)[i]'(by omega)) (iJ l)[i+1] (dh l ((iJ l)[i]'(by omega))))]:List bQ) 0 1).length 1 40=true:=by refine eY (n:=1) ?_ ?_;rw[length_take];unfold bg;omega;rw[length_take];unfold bg;simp[maxLen];omega
  have tk:(bg l).take (i+1)=(bg l).take i++[⟨(iJ l)[i]'(by omega),(iJ l)[i+1],dh l ((iJ l)[i]'(by omega))⟩]:=by rw[kL hi];congr 2;exact p2 i hi2 hi
  simp only[tH,d,aj,wp,aV (show i<(iJ l).length by omega),bG (show i<(iJ l).length by omega),ai,aV hi2,bG hi2,jq,aN,abr (l:=l) (n:=n) hv (by omega) (by omega),ap,gY];rw[aR (by omega),tk];rfl;have d:decide ((((bg l).length+1:Nat):Int)<((iJ l).length:Nat))=false:=by unfold bg;simp;omega
  simp only[tH,d,au,List.take_length,aN,aj]
 rw[key];simp
def Ez(x0 x1:Int)(c:List aK):List ax:=c.map λq=>⟨x0,q.from_,x1,q.to⟩
def E1(x0 x1:Int)(c:List aK):List bQ->List ax
 |[]=>Ez x0 x1 c
 |s::l=>if s.column=c then E1 x0 s.x1 c l else Ez x0 x1 c++E1 s.x0 s.x1 s.column l
def nV:List bQ->List ax
 |[]=>[]
 |s::l=>E1 s.x0 s.x1 s.column l
theorem ZU x0 c:∀(l:List bQ) x1 (k:Nat) (hk:k<=l.length),(∀ j (hj:j<k),(l[j]'(by omega)).column=c)->(∀ h:k<l.length,l[k].column≠c)->
 E1 x0 x1 c l=Ez x0 (if h:0<k then(l[k-1]'(by omega)).x1 else x1) c++nV (l.drop k)
 |l,x1,0,_,_,h2=>by
  cases l with
  |nil=>simp[E1,nV]
  |cons s l=>
   have:=h2 (by simp);simp at this;simp[E1,nV,this]
 |[],x1,k+1,hk,_,_=>by simp at hk
 |s::l,x1,k+1,hk,h1,h2=>by
  have e0:=h1 0 (by omega);simp at e0;simp[E1,e0];rw[ZU x0 c l s.x1 k (by simpa using hk) (λ j hj=>by have:=h1 (j+1) (by omega);simpa using this) (λ h=>by have:=h2 (by simpa using h);simpa using this)];simp;congr 2;by_cases hk0:0<k;simp[hk0];obtain⟨m,rfl⟩:∃m,k=m+1:=⟨k-1,by omega⟩;simp;have:k=0:=by omega
  subst this;simp
theorem RX{l:List bQ}{i k:Nat}(hi:i<l.length)(hk1:0<k)(hk:k<=l.length)(hl:l.length<10995116277)(x3:bQ) out (ho:out.length<1099511627776) (hc:x3.column.length<1099511627776) (hn:x3.column.length<n):
 iter (vW l i k x3) n (0,out)=some (out++Ez l[i].x0 (l[k-1]'(by omega)).x1 x3.column):=by
 have:=gL (l:=x3.column) (step:=vW l i k x3) (λ j s=>(j,s)) (λ q s=>s++[⟨l[i].x0,q.from_,(l[k-1]'(by omega)).x1,q.to⟩]) (λ s=>s) (λ j s=>s.length<=out.length+j)
  (λ j hj s hs=>?_) (λ s hs=>by simp[vW]) n hn out (aA _)
 rw[ll]at this;rw[this];have gen:∀ys s,ys.foldl (λ s q=>s++[⟨l[i].x0,q.from_,(l[k-1]'(by omega)).x1,q.to⟩]) s=s++Ez l[i].x0 (l[k-1]'(by omega)).x1 ys:=by
  intro ys
  induction ys with
  |nil=>intro s;simp[Ez]
  |cons y ys ih=>intro s;simp[ih];simp[Ez]
 rw[gen];have hj':decide ((j:Int)<x3.column.length)=true:=by simpa using hj
 have wp:i64.wrap (k-1)=(k-1:Nat):=nu hk1 (by omega);have ap:bP s.length s.length (sub ([(ax.mk l[i].x0 (x3.column[j]).from_ (l[k-1]'(by omega)).x1 (x3.column[j]).to)]:List ax) 0 1).length 1 32=true:=eY (n:=1) (by omega) (by simp[maxLen];omega);simp only[vW,hj',aj,bJ hj,bJ hi,wp,bJ (show k-1<l.length by omega),ai,ap,gY,aN];refine⟨?_,by simp;omega⟩;rw[aR (by omega)];rfl
theorem Rq{l:List bQ}{b:Nat}(hb:b<=100000)(hl:l.length<=100000)(hc:∀s∈l,s.column.length<=b)(hn:b<n)(hn2:l.length<n):Ht n l=some (nV l):=by
 unfold Ht;simp only[length_nil,aN,aj];have main:∀(m i:Nat)(out:List ax)(k:Nat),i+m=l.length->m<k->out.length<=i*b->iter (vX n l) k ((i:Int),out)=some (out++nV (l.drop i)):=by
  intro m
  induction m using Nat.strongRecOn with
  |ind m ih=>
   intro i out k him hk ho;obtain⟨k,rfl⟩:∃j,k=j+1:=⟨k-1,by omega⟩;by_cases hm:m=0;subst hm;have:i=l.length:=(by omega);subst this;refine cu ?_;simp[vX,nV];have hi:i<l.length:=(by omega);have di:decide ((i:Int)<(l.length:Int))=true:=(by simpa using hi);obtain⟨q,hq1,hq2,hq3,hq4⟩:∃q,i<q/\q<=l.length/\(∀ j,i<j->j<q->∀h:j<l.length,l[j].column=l[i].column)/\(∀ h:q<l.length,l[q].column≠l[i].column):=(by rcases Kk (λ j=>if h:j<l.length then decide (l[j].column≠l[i].column)else false) (i+1) l.length with ⟨q,h1,h2,h3,h4⟩|h;simp[h2]at h3;refine⟨q,by omega,by omega,λj hj1 hj2 hj=>?_,λ_=>h3⟩;have:=h4 j (by omega) hj2;simp[hj,Decidable.not_not]at this;exact this;refine⟨l.length,hi,aA _,λj hj1 hj2 hj=>?_,λh=>by omega⟩;have:=h j (by omega) hj;simp[hj,dite_true,dL,ne_eq,Decidable.not_not]at this;exact this);have cl:∀j (hj:j<l.length),l[j].column.length<=b:=λj hj=>hc _ (getElem_mem hj);have r2:iter (rY n l (i:Int)) n (i64.wrap ((i:Int)+1))=some (q:Int):=(by rw[aR (by omega)];have:=mY (step:=rY n l (i:Int)) (λ j=>((i+1+j:Nat):Int)) (q-(i+1)) q (λ j hj=>?_) ?_ n (by omega);simpa using this;have hjl:i+1+j<l.length:=(by omega);have dj:decide (((i+1+j:Nat):Int)<l.length)=true:=(by simp;omega);have hcc:=cl (i+1+j) hjl;simp only[rY,dj,aj,bJ hjl,bJ hi,ai];rw[Cu (by omega) (by omega),hq3 (i+1+j) (by omega) (by omega) hjl];simp only[decide_true,ai,aj];rw[aR (by omega)];rfl;rw[show i+1+(q-(i+1))=q by omega];by_cases zr:q<l.length;have dj:decide ((q:Nat)<l.length)=true:=(by simpa using zr);have hcc:=cl q zr;simp[rY,dj,aj,bJ zr,bJ hi,ai];rw[Cu (by omega) (by omega)];simp[hq4 zr];have dj:decide ((q:Int)<l.length)=false:=(by simp;omega);simp only[rY,dj,au,ai]);have ob:i*b<=100000*100000:=Nat.mul_le_mul (by omega) hb;have hci:=cl i hi;have r3:=RX (n:=n) hi (show 0<q by omega) hq2 (by omega) l[i] out (by omega) (by omega) (by omega);have step:vX n l (i,out)=some (.inl (q,out++Ez l[i].x0 (l[q-1]'(by omega)).x1 l[i].column)):=(by simp only[vX,di,aj,r2,bJ hi,ai,aN,r3]);rw[dM step,ih (l.length-q) (by omega) q _ k (by omega) (by omega) (by rw[fQ,Ez,length_map];have:(i+1)*b<=q*b:=Nat.mul_le_mul_right _ (by omega);rw[Nat.add_mul]at this;omega)];rw[aT];congr 2
   conv=>rhs;rw[List.drop_eq_getElem_cons hi]
   simp[nV];rw[ZU l[i].x0 l[i].column (l.drop (i+1)) l[i].x1 (q-(i+1)) (by rw[length_drop];omega) (λ j hj=>by rw[getElem_drop];exact hq3 _ (by omega) (by omega) (by omega)) (λ h=>by rw[length_drop]at h;rw[getElem_drop];have:=hq4 (by omega);have hqq:i+1+(q-(i+1))=q:=(by omega);simp[hqq];exact this)];rw[List.drop_drop,show i+1+(q-(i+1))=q by omega];congr 2;by_cases h0:0<q-(i+1);simp[h0,dite_true,getElem_drop];congr 2;omega;simp[h0,dite_false];have:q-1=i:=(by omega);congr 2
 have:=main l.length 0 [] n (by omega) (by omega) (by simp);simp[Int.natCast_zero,fT,List.drop_zero]at this;rw[this];simp
def rI(l:List ax):List ax×Int:=
 if l.all d6 then(if l.length>400 then([],6)else if (nV (bg l)).length>200 then([],6)else(nV (bg l),0))else([],1)
def cH(l:List ax):Bool:=decide ((rI l).2=0)&&decide ((rI l).1=l)
theorem adI{l:List ax}{s:bQ}(h:s∈bg l):s.column.length<=l.length:=by obtain⟨i,hi,rfl⟩:=List.getElem_of_mem h;obtain⟨p1,p2⟩:=rP (λ a b=>(⟨a,b,dh l a⟩:bQ)) (iJ l);have:(bg l)[i]=⟨(iJ l)[i]'(by unfold bg at hi;omega),(iJ l)[i+1]'(by unfold bg at hi;omega),dh l ((iJ l)[i]'(by unfold bg at hi;omega))⟩:=p2 i (by unfold bg at hi;omega) hi;rw[this];exact yO l _
theorem tZ l:(bg l).length<=2*l.length:=by obtain⟨p1,_⟩:=rP (λ a b=>(⟨a,b,dh l a⟩:bQ)) (iJ l);have:=Kn l;unfold bg;omega
theorem ak1{l:List ax}(hl:l.length<1099511627776)(hl2:l.length<n)(hn:1000<=n):SJ n l=some (rI l):=by
 unfold SJ;have h1:=rU (l:=l) (step:=MV l) (λ i=>i) (λ r=>!d6 r) () (λ _=>([],1)) (λ i hi=>?_) ?_ n (by omega);rw[ll]at h1;rw[h1];have h2:=sS (λ r=>!d6 r) l;cases hf:oN (λ r=>!d6 r) l with
 |some i=>
  rw[hf]at h2;have:l.all d6=false:=by rw[<- Bool.not_eq_true,all_eq_true];intro hall;have h3:=h2.symm;simp only[Option.isSome_some,any_eq_true]at h3;obtain⟨x,hx,hx2⟩:=h3;rw[hall x hx]at hx2;cases hx2
  simp[rI,this]
 |none=>
  rw[hf]at h2;have:l.all d6=true:=by
   rw[all_eq_true];intro x hx;cases h:d6 x with
   |true=>rfl
   |false=>
    have:l.any (λ r=>!d6 r)=true:=any_eq_true.2 ⟨x,hx,by rw[h];rfl⟩;rw[this]at h2;cases h2
  have hv:∀r∈l,d6 r=true:=all_eq_true.1 this;by_cases Lo:l.length>400;have d4:decide ((l.length:Int)>400)=true:=by simp;omega
  simp[d4,rI,this,aY Lo];have d4:decide ((l.length:Int)>400)=false:=by simp;omega
  have ls:=tZ l;simp[d4];have fl:[l].flatten=l:=by simp
  rw[show (sub ([l]:List (List ax)) 0 1)=[l]from rfl,xI (ls:=[l]) (by rw[fl];exact hv) (by rw[fl];omega) (by simp) (by rw[fl];omega) (by simp;omega),fl];simp;rw[Rq (b:=400) (by omega) (by omega) (λ s hs=>Nat.le_trans (adI hs) (by omega)) (by omega) (by omega)];simp[yJ,rI,this,aW Lo];by_cases q7:(nV (bg l)).length>200;have:decide (((nV (bg l)).length:Int)>200)=true:=by simp;omega
  simp[this,q7];have:decide (((nV (bg l)).length:Int)>200)=false:=by simp;omega
  simp[this,q7]
 have hi':decide ((i:Int)<l.length)=true:=by simpa using hi
 simp only[MV,hi',aj,bJ hi,ai,jS];cases d6 l[i]with
 |false=>rfl
 |true=>simp only[Bool.not_true,au];rw[aR (by omega)]
 simp[MV]
theorem kK{l:List ax}(hl:l.length<1099511627776)(hl2:l.length<n)(hn:1000<=n):ny n l=some (cH l):=by
 unfold ny cH;rw[ak1 hl hl2 hn];simp;by_cases h:(rI l).2=0;have e:((rI l).2==0)=true:=by simp[h]
 have lo:(rI l).1.length<=200:=by unfold rI;split;split;simp;split;simp;simp;omega;simp
 by_cases hlen:(rI l).1.length<n;simp only[h,decide_true,Bool.true_and];rw[Ct (by omega) hlen];rfl;have:(rI l).1.length≠l.length:=by omega
 have hne:(rI l).1≠l:=λe=>this (by rw[e]);simp[h];unfold oG;have hb:(((rI l).1.length:Int) !=l.length)=true:=by simp;omega
 rw[hb];simp[hne];have e:((rI l).2==0)=false:=by simp[h]
 simp[e,h]
theorem PG{α:Type} c (a b:α):(bif c then some a else some b)=some (bif c then a else b):=by cases c<;>rfl
theorem ZV(i n:Nat):Int.tmod (i:Int) (n:Int)=(i%n:Nat):=by rw[Int.tmod_eq_emod_of_nonneg (by omega)];omega
theorem dV{i n:Nat}(h:i<n):decide ((i:Int)<(n:Nat))=true:=by simpa using h
theorem Wm(n:Nat):decide ((n:Int)<(n:Nat))=false:=by simp
theorem ahT{k b:Nat}(h:k*b<=140737488355328)(h2:k<=maxLen):wC k b=true:=by
 have e:((k:Int)).toNat=k:=by omega
 simp only[wC,bC,bF,e];exact⟨⟨by omega,h⟩,h2⟩
def pS(p:List eD)(i:Nat):eD:=p.getD i ⟨0,0⟩
def jE(p:List eD)(i:Nat):jW:=⟨(pS p i).x,(pS p i).y,(pS p ((i+1)%p.length)).x,(pS p ((i+1)%p.length)).y⟩
def gP(p:List eD):List jW:=(List.range p.length).map (jE p)
theorem TN{p:List eD}{i:Nat}(h:i<p.length):pS p i=p[i]:=by simp[pS,h]
theorem dY p:(gP p).length=p.length:=by simp[gP]
theorem yP{p:List eD}{i:Nat}(h:i<(gP p).length):(gP p)[i]=jE p i:=by simp[gP]
theorem ak2{α:Type}(A B:List α)(z x:α):(A++z::B).set A.length x=A++x::B:=by rw[List.set_append_right _ _ (aA _),Nat.sub_self];rfl
theorem Al{p:List eD}(hl:p.length<=100000)(hn:p.length<n):pI n p=some (gP p):=by
 unfold pI;have mk:wC (p.length:Nat) 32=true:=ahT (by omega) (by show p.length<=2 ^ 63-1;omega);have main:=mY (step:=oQ p) (λ i=>((i:Nat),(List.range i).map (jE p)++List.replicate (p.length-i) (jW.mk 0 0 0 0))) p.length (gP p) (λ i hi=>?_) ?_ n hn;have z:((p.length:Int)).toNat=p.length:=by omega
 simp only[List.range_zero,List.map_nil,fT,Nat.sub_zero]at main;have d1:decide ((p.length:Int)<=(p.length:Nat))=true:=by simp
 have d2:decide ((0:Int)<=(p.length:Nat))=true:=by simp
 rw[mk,d1,d2,z];simp;rw[ll]at main;rw[main];simp;have e:sub (gP p) 0 p.length=gP p:=by rw[<- dY p];exact jq _
 rw[e,dY];simp;have nz:((p.length:Int) !=0)=true:=by simp;intro h;rw[h]at hi;simp at hi
 have md:(i+1)%p.length<p.length:=Nat.mod_lt _ (by omega);have w:i64.wrap (i+1)=(i+1:Nat):=aR (by omega);have z:((p.length:Int)).toNat=p.length:=by omega
 have rp:List.replicate (p.length-i) (jW.mk 0 0 0 0)=jW.mk 0 0 0 0::List.replicate (p.length-(i+1)) (jW.mk 0 0 0 0):=by rw[show p.length-i=(p.length-(i+1))+1 by omega,List.replicate_succ]
 have la:((List.range i).map (jE p)).length=i:=by simp
 have g:bz ((List.range i).map (jE p)++List.replicate (p.length-i) (jW.mk 0 0 0 0)) ((0:Nat)+(i:Nat))=some (jW.mk 0 0 0 0):=by rw[oM,oK (by omega),la,rp,Nat.sub_self];rfl
 have z2:(((0:Nat):Int)+(i:Nat)).toNat=i:=by omega
 have st:((List.range i).map (jE p)++List.replicate (p.length-i) (jW.mk 0 0 0 0)).set i (jE p i)=(List.range (i+1)).map (jE p)++List.replicate (p.length-(i+1)) (jW.mk 0 0 0 0):=by rw[rp];have:=ak2 ((List.range i).map (jE p)) (List.replicate (p.length-(i+1)) (jW.mk 0 0 0 0)) (jW.mk 0 0 0 0) (jE p i);rw[la]at this;rw[this,List.range_succ,map_append,aT];rfl
 simp only[oQ,dV hi,aj,bJ hi,ai,nz,w,ZV,bJ md,z,aV hi,g,z2];rw[<- TN hi,<- TN md];rw[show jW.mk (pS p i).x (pS p i).y (pS p ((i+1)%p.length)).x (pS p ((i+1)%p.length)).y=jE p i from rfl,st];simp[oQ];rfl
def TP(a:eD):Bool:=decide (0<=a.x)&&(decide (a.x<=1048576)&&(decide (0<=a.y)&&decide (a.y<=1048576)))
def ux(s:jW):Bool:=s.ly==s.mC
def S0(s t:jW):Bool:=decide (max (min s.ly s.mC) (min t.ly t.mC)<=min (max s.ly s.mC) (max t.ly t.mC))&&decide (max (min s.pH s.ut) (min t.pH t.ut)<=min (max s.pH s.ut) (max t.pH t.ut))
def TQ(a b:eD):Bool:=decide (a.x<b.x) || (a.x==b.x&&decide (a.y<b.y))
theorem Nb(a:eD):tK a=some (TP a):=by simp[tK,S3,TP]
theorem Cv(s t:jW):lZ s t=some (S0 s t):=by simp[lZ,S3,S0]
theorem nH(s:jW):iy s=some (ux s):=rfl
theorem Wn(a b:Int)(hn:3<=n):uX n [a,b]=some (if a=0 then b else a):=by
 obtain⟨m,rfl⟩:∃m,n=m+3:=⟨n-3,by omega⟩;have w1:i64.wrap (0+1)=1:=by decide
 have w2:i64.wrap (1+1)=2:=by decide
 by_cases ha:a=0;by_cases hb:b=0;subst ha;subst hb;simp;rfl;have hb':(b !=0)=true:=by simpa using hb
 subst ha;simp only[uX,Jf,AL,w1];simp[bz,hb'];have ha':(a !=0)=true:=by simpa using ha
 simp[uX,Jf,AL];simp[bz,ha',ha]
theorem KO(a b:eD)(hn:3<=n):∃r,q8 n a b=some r/\decide (r>=0)=!TQ a b:=by
 unfold q8;rw[jm,jm];simp;rw[show ∀u v:Int,sub [u,v] 0 2=[u,v]from λ_ _=>rfl,Wn _ _ hn];refine⟨_,rfl,?_⟩;unfold TQ;by_cases h1:a.x<b.x;simp[h1];by_cases h2:b.x<a.x;have h3:¬a.x=b.x:=by omega
 simp[h1,h2,h3];have h3:a.x=b.x:=by omega
 by_cases h4:a.y<b.y;simp[h3,h4];by_cases h5:b.y<a.y<;>simp[h3,h4,h5]
def MM(p:List eD)(i:Nat):Bool:=
 (!TP (pS p i) || ((((jE p i).ly==(jE p i).mC)==((jE p i).pH==(jE p i).ut)) || (ux (jE p i)==ux (jE p ((i+1)%p.length))))) || (decide (0<i)&&!TQ (pS p 0) (pS p i))
def RY(p:List eD)(i k:Nat):Bool:=decide (i+p.length-k>1)&&S0 (jE p i) (jE p k)
def PI(p:List eD):Bool:=
 decide (4<=p.length)&&(decide (p.length<=60)&&(!((List.range p.length).any (MM p))&&(!((List.range p.length).any λi=>(List.range p.length).any λk=>decide (i+2<=k)&&RY p i k)&&!ux (jE p 0))))
def agc(l:List ax)(x y:Int):Bool:=l.any λr=>(decide (r.x0<=x)&&decide (x<r.x1))&&(decide (r.y0<=y)&&decide (y<r.y1))
theorem adJ l (x y:Int):ia (lH l x) y=agc l x y:=by
 induction l with
 |nil=>rfl
 |cons r l ih=>
  unfold lH agc at*;rw[List.filter_cons,List.any_cons,<- ih];cases h:(decide (r.x0<=x)&&decide (x<r.x1))with
  |true=>simp;rw[oo]
  |false=>simp
theorem Nc{l:List ax}(h:∀r∈l,d6 r=true) x:Can (dh l x)/\∀y,ia (dh l x) y=agc l x y:=by have⟨h1,h2⟩:=ZT (Wl h x);exact⟨h1,λy=>by rw[dh,h2,adJ]⟩
def Wo:List bQ->Prop
 |[]=>True
 |[s]=>s.x0<s.x1
 |s::t::l=>s.x0<s.x1/\s.x1=t.x0/\Wo (t::l)
def H7:List bQ->Int->List aK
 |[],_=>[]
 |s::l,x=>bif decide (s.x0<=x)&&decide (x<s.x1)then s.column else H7 l x
theorem yQ(s:bQ) l x:H7 (s::l) x=bif decide (s.x0<=x)&&decide (x<s.x1)then s.column else H7 l x:=rfl
def Runs:List bQ->Prop
 |[]=>True
 |[s]=>s.x0<s.x1/\s.column≠[]
 |s::t::l=>(s.x0<s.x1/\s.column≠[])/\s.x1<=t.x0/\(s.x1=t.x0->s.column≠t.column)/\Runs (t::l)
theorem amt{s:bQ}{l:List bQ}{x:Int}(h1:s.x0<=x)(h2:x<s.x1):H7 (s::l) x=s.column:=by rw[yQ,show(decide (s.x0<=x)&&decide (x<s.x1))=true by simp[h1,h2]];rfl
theorem qh{α:Type}(f:Int->Int->α)(a b:Int) l:jT f (a::b::l)=f a b::jT f (b::l):=rfl
theorem Nf(g:Int->List aK):∀es,es.Pairwise (· < ·)->Wo (jT (λ a b=>(⟨a,b,g a⟩:bQ)) es)
 |[],_|[_],_=>trivial
 |[a,b],h=>by have h1:=(pairwise_cons.1 h).1 b (by simp);exact h1
 |a::b::c::l,h=>by have h1:=(pairwise_cons.1 h).1 b (by simp);exact⟨h1,rfl,Nf g (b::c::l) (pairwise_cons.1 h).2⟩
theorem H8(g:Int->List aK) x:∀es,(∀ e∈es,x<e)->H7 (jT (λ a b=>(⟨a,b,g a⟩:bQ)) es) x=[]
 |[],_|[_],_=>rfl
 |a::b::l,h=>by have ha:=h a (by simp);rw[qh,yQ,show(decide (a<=x)&&decide (x<b))=false by rw[Bool.and_eq_false_iff,dL];left;omega,au];exact H8 g x (b::l) λe he=>h e (cZ _ he)
theorem H9(g:Int->List aK) x:∀l a,(a::l).Pairwise (· < ·)->a<=x->
 (∀ e∈a::l,e<=x->(∀ e'∈a::l,e'<=e\/x<e')->g e=g x)->((∀ e∈a::l,e<=x)->g x=[])->H7 (jT (λ a b=>(⟨a,b,g a⟩:bQ)) (a::l)) x=g x
 |[],a,_,hx,_,h2=>(h2 (λ e he=>by have:e=a:=by simpa using he
                                  subst this;exact hx)).symm
 |b::l,a,hp,hx,h1,h2=>by have hab:=(pairwise_cons.1 hp).1 b (by simp);rw[qh,yQ];by_cases hb:x<b;rw[show (decide (a<=x)&&decide (x<b))=true by simp[hx,hb],aj];refine h1 a (by simp) hx λe he=>?_;rcases aQ.1 he with rfl|he;exact .inl (Int.le_refl _);right;rcases aQ.1 he with rfl|he;exact hb;have:=(pairwise_cons.1 (pairwise_cons.1 hp).2).1 e he;omega;rw[show (decide (a<=x)&&decide (x<b))=false by simp[hb],au];refine H9 g x l b (pairwise_cons.1 hp).2 (by omega) (λ e he hex hc=>h1 e (cZ _ he) hex λe' he'=>?_) λhall=>h2 λe he=>?_;rcases aQ.1 he' with rfl|he';left;have:=(pairwise_cons.1 hp).1 e he;omega;exact hc e' he';rcases aQ.1 he with rfl|he;exact hx;exact hall e he
theorem adK(g:Int->List aK) es (hp:es.Pairwise (· < ·)) x
 (h1:∀e∈es,e<=x->(∀ e'∈es,e'<=e\/x<e')->g e=g x) (h2:(∀ e∈es,e<=x)->g x=[]) (h3:(∀ e∈es,x<e)->g x=[]):H7 (jT (λ a b=>(⟨a,b,g a⟩:bQ)) es) x=g x:=by
 cases es with
 |nil=>exact(h3 (by simp)).symm
 |cons a l=>
  by_cases hx:a<=x;exact H9 g x l a hp hx h1 h2;have hall:∀e∈a::l,x<e:=by intro e he;rcases aQ.1 he with rfl|he;omega;have:=(pairwise_cons.1 hp).1 e he;omega
  rw[H8 g x _ hall,h3 hall]
theorem Wp{l:List ax}{z:Int}:z∈iJ l↔∃r∈l,z=r.x0\/z=r.x1:=by rw[iJ,akt,List.mem_flatMap];simp
theorem Ko l:(iJ l).Pairwise (· < ·):=adn _
theorem Ym{l:List ax}{es:List Int}(hes:∀r∈l,r.x0∈es/\r.x1∈es){e x:Int}(hex:e<=x)(hc:∀e'∈es,e'<=e\/x<e'):lH l e=lH l x:=by unfold lH;congr 1;refine List.filter_congr λr hr=>?_;have⟨h0,h1⟩:=hes r hr;have:=hc _ h0;have:=hc _ h1;rw[kS,bC,bC,bF,bF,bF,bF];omega
theorem Ng{l:List ax}{x:Int}(h:∀r∈l,x<r.x0\/r.x1<=x):lH l x=[]:=by unfold lH;rw[List.map_eq_nil_iff,List.filter_eq_nil_iff];intro r hr;have:=h r hr;rw[bC,bF,bF];omega
theorem Ia l:Wo (bg l):=Nf _ _ (Ko l)
theorem Kq l x:H7 (bg l) x=dh l x:=by have hes:∀r∈l,r.x0∈iJ l/\r.x1∈iJ l:=λr hr=>⟨Wp.2 ⟨r,hr,.inl rfl⟩,Wp.2 ⟨r,hr,.inr rfl⟩⟩;refine adK (dh l) (iJ l) (Ko l) x (λ e _ hex hc=>?_) (λ hall=>?_) (λ hall=>?_);unfold dh;rw[Ym hes hex hc];unfold dh;rw[Ng λr hr=>.inr (hall _ (hes r hr).2)];rfl;unfold dh;rw[Ng λr hr=>.inl (hall _ (hes r hr).1)];rfl
theorem ai6{a:List ax}(h:cH a=true):rI a=(a,0):=by unfold cH at h;rw[bC,bF,bF]at h;obtain⟨h1,h2⟩:=h;exact Prod.ext h2 h1
theorem uf{a:List ax}(h:cH a=true):(∀ r∈a,d6 r=true)/\a.length<=200/\nV (bg a)=a:=by have h:=ai6 h;unfold rI at h;split at h;rename_i hall;split at h;simp at h;split at h;simp at h;rename_i q7;injection h with h _;refine⟨all_eq_true.1 hall,?_,h⟩;rw[<- h];omega;simp at h
def ext(out:List aK)(p:aK):List aK:=
 match out.getLast? with
 |some q=>bif q.to==p.from_ then out.dropLast++[⟨q.from_,p.to⟩]else out++[p]
 |none=>[p]
def kx(a b:List aK):List Int:=Hd ((a++b).flatMap λs=>[s.from_,s.to])
def ug(keep:Bool->Bool->Bool)(a b:List aK):List aK:=
 ((jT aK.mk (kx a b)).filter λp=>keep (ia a p.from_) (ia b p.from_)).foldl ext []
theorem agf o (q p:aK):ext (o++[q]) p=bif q.to==p.from_ then o++[⟨q.from_,p.to⟩]else o++[q]++[p]:=by simp[ext]
def qQ(keep:Bool->Bool->Bool)(a b:List ax):List bQ:=
 jT (λ x x'=>(⟨x,x',ug keep (dh a x) (dh b x)⟩:bQ)) (iJ (a++b))
def qR(keep:Bool->Bool->Bool)(a b:List ax):List ax×Int:=
 if cH a&&cH b then(if (nV (qQ keep a b)).length>200 then([],6)else(nV (qQ keep a b),0))else([],1)
def Wq{α:Type}(a0:List α)(a1:Int)(a2:(α×Int×Unit)->Option Int):(Int×Int)->Option ((Int×Int)⊕Int)
 |(v1,v2)=>(bif (decide (v1<v2))then(ck (decide (0<=1)&&decide (1<=IntKind.u64.bits)) ((bz a0 (i64.wrap ((IntKind.u64.wrap (i64.wrap (v1+v2)))/2 ^ (1:Int).toNat))).bind λx1=>(a2 (x1,a1,())).bind λr1=>(bif (decide (r1<0))then some (.inl ((i64.wrap ((i64.wrap ((IntKind.u64.wrap (i64.wrap (v1+v2)))/2 ^ (1:Int).toNat))+1)),v2))else some (.inl (v1,(i64.wrap ((IntKind.u64.wrap (i64.wrap (v1+v2)))/2 ^ (1:Int).toNat)))))))else some (.inr v1))
theorem adL{α:Type}{l:List α}{key:Int}{φ:(α×Int×Unit)->Option Int}(p:α->Bool)(f:α->Int)(hφ:∀x,φ (x,key,())=some (f x))(hf:∀x,decide (f x<0)=p x)
 (hm:∀i j (hj:j<l.length) (hij:i<j),p l[j]=true->p (l[i]'(by omega))=true) (hl:l.length<1099511627776):
 ∀(m i j n:Nat),j-i<=m->i<=j->j<=l.length->(∀ k (hk:k<i) (hkl:k<l.length),p l[k]=true)->(∀ k (hk:j<=k) (hkl:k<l.length),p l[k]=false)->m<n->
 ∃w:Nat,w<=l.length/\iter (Wq l key φ) n (i,j)=some (w:Int)/\(∀ k (hk:k<w) (hkl:k<l.length),p l[k]=true)/\∀k (hk:w<=k) (hkl:k<l.length),p l[k]=false:=by
 intro m
 induction m with
 |zero=>
  intro i j n hm0 hij hjl h1 h2 hn;obtain⟨n,rfl⟩:∃q,n=q+1:=⟨n-1,by omega⟩;have:i=j:=by omega
  subst this;exact⟨i,hjl,cu (by simp[Wq]),h1,h2⟩
 |succ m ih=>
  intro i j n hm0 hij hjl h1 h2 hn;obtain⟨n,rfl⟩:∃q,n=q+1:=⟨n-1,by omega⟩;by_cases hlt:i<j;have c:decide ((i:Int)<(j:Nat))=true:=by simpa using hlt
  have c1:(decide (0<=1)&&decide (1<=IntKind.u64.bits))=true:=rfl;have e:i64.wrap ((IntKind.u64.wrap (i64.wrap ((i:Nat)+(j:Nat))))/2 ^ (1:Int).toNat)=((i+j)/2:Nat):=by
   rw[aoE (by omega),ZI (by omega),show((((i+j:Nat):Int))/2 ^ (1:Int).toNat)=((i+j)/2:Nat)by
    rw[show (1:Int).toNat=1 from rfl,Int.pow_one];omega,VG (by omega)]
  have hh:(i+j)/2<l.length:=by omega
  cases hp:p l[(i+j)/2]with
  |true=>
   have s:Wq l key φ (i,j)=some (.inl (((i+j)/2+1:Nat),j)):=(by simp only[Wq,c,aj,c1,e,bJ hh,ai,hφ,hf,hp];rw[aR (by omega)]);rw[dM s];refine ih _ _ n (by omega) (by omega) hjl (λ k hk hkl=>?_) h2 (by omega);by_cases hk2:k<(i+j)/2;exact hm k _ hh hk2 hp;have:k=(i+j)/2:=(by omega);subst this;exact hp
  |false=>
   have s:Wq l key φ (i,j)=some (.inl (i,((i+j)/2:Nat))):=(by simp only[Wq,c,aj,c1,e,bJ hh,ai,hφ,hf,hp,au]);rw[dM s];refine ih _ _ n (by omega) (by omega) (by omega) h1 (λ k hk hkl=>?_) (by omega);by_cases hk2:(i+j)/2<k;cases hpk:p l[k]with
   |false=>rfl
   |true=>have:=hm _ k hkl hk2 hpk;rw[hp]at this;cases this
   have:k=(i+j)/2:=(by omega);subst this;exact hp
  have:i=j:=by omega
  subst this;exact⟨i,hjl,cu (by simp[Wq]),h1,h2⟩
theorem ak4 l key (φ:(bQ×Int×Unit)->Option Int):lX l key φ=Wq l key φ:=by funext ⟨a,b⟩;rfl
theorem amu l key (φ:(aK×Int×Unit)->Option Int):mW l key φ=Wq l key φ:=by funext ⟨a,b⟩;rfl
theorem Ws:∀{l:List bQ},Wo l->l.Pairwise (λ s t=>s.x1<=t.x0)/\∀s∈l,s.x0<s.x1
 |[],_=>⟨List.Pairwise.nil,by simp⟩
 |[s],h=>⟨by simp,λt ht=>by have:t=s:=by simpa using ht
                            subst this;exact h⟩
 |s::t::l,h=>by obtain⟨h1,h2,h3⟩:=h;have⟨p1,p2⟩:=Ws h3;refine⟨?_,?_⟩;rw[pairwise_cons];refine⟨λ u hu=>?_,p1⟩;rcases aQ.1 hu with rfl|hu;omega;have:=(pairwise_cons.1 p1).1 u hu;have:=p2 t (by simp);omega;intro u hu;rcases aQ.1 hu with rfl|hu;exact h1;exact p2 u hu
theorem KP{x:Int}:∀{l:List bQ},(∀ s∈l,¬(s.x0<=x/\x<s.x1))->H7 l x=[]
 |[],_=>rfl
 |s::l,h=>by have:=h s (by simp);rw[yQ,show(decide (s.x0<=x)&&decide (x<s.x1))=false by rw[Bool.and_eq_false_iff,dL,dL];omega,au];exact KP λt ht=>h t (by simp[ht])
theorem ZW{x:Int}:∀{l:List bQ}{w:Nat}(hw:w<l.length),(∀ k (hk:k<w),¬((l[k]'(by omega)).x0<=x/\x<(l[k]'(by omega)).x1))->l[w].x0<=x->x<l[w].x1->H7 l x=l[w].column
 |[],w,hw,_,_,_=>by simp at hw
 |s::l,0,hw,_,h0,h1=>amt h0 h1
 |s::l,w+1,hw,hk,h0,h1=>by have hs:=hk 0 (by omega);simp at hs;rw[yQ,show(decide (s.x0<=x)&&decide (x<s.x1))=false by rw[Bool.and_eq_false_iff,dL,dL];omega,au];exact ZW (by simpa using hw) (λ k hk'=>by have:=hk (k+1) (by omega);simpa using this) h0 h1
theorem adM{l:List bQ}{x:Int}(h:Wo l)(hl:l.length<1099511627776)(hn:l.length<n):V6 n l x=some (H7 l x):=by
 have⟨a1,a2⟩:=Ws h;rw[List.pairwise_iff_getElem]at a1
 have run:=adL (l:=l) (key:=x) (φ:=λ(y1:bQ×Int×Unit)=>vY y1.1 y1.2.1) (λ s=>decide (s.x1<=x)) (λ s=>if s.x1<=x then -1 else 1)
  (λ s=>by show vY s x=_;unfold vY;by_cases c:s.x1<=x<;>simp[c]) (λ s=>by by_cases c:s.x1<=x<;>simp[c])
  (λ i j hj hij hp=>by rw[bF]at hp ⊢;have:=a1 i j (by omega) hj hij;have:=a2 l[j] (getElem_mem _);omega) hl l.length 0 l.length n (by omega) (by omega) (aA _) (λ k hk=>by omega) (λ k hk hkl=>by omega) hn
 obtain⟨w,hw,e,h1,h2⟩:=run;unfold V6 jB;rw[ak4];have e':iter (Wq l x λ(y1:bQ×Int×Unit)=>vY y1.1 y1.2.1) n (0,(l.length:Nat))=some (w:Int):=e;rw[e'];simp only[ai];have ao:∀b:Int,∃bb,((bif (decide (w<(l.length:Int)))then(bz l w).bind λx2=>(vY x2 x).bind λr2=>some (w,(r2==b))else some (w,false)):Option (Int×Bool))=some ((w:Int),bb):=by
  intro b;by_cases c:w<l.length;have d:decide ((w:Int)<l.length)=true:=by simpa using c
  rw[d];simp only[aj];rw[bJ c,ai];unfold vY;cases decide (l[w].x1<=x)<;>exact⟨_,rfl⟩;have d:decide ((w:Int)<l.length)=false:=by simp;omega
  rw[d];exact⟨_,rfl⟩
 have⟨bb,hbb⟩:=ao 0;rw[hbb,ai];simp only[];by_cases c:w<l.length;have d:decide ((w:Int)<l.length)=true:=by simpa using c
 simp only[d,aj,bJ c,ai];have hx1:=h2 w (aA _) c;rw[dL]at hx1;by_cases c2:l[w].x0<=x;simp[c2];rw[ZW c (λ k hk hh=>?_) c2 (by omega)];have:=h1 k hk (by omega);rw[bF]at this;omega;simp[c2];rw[KP λs hs hh=>?_];obtain⟨k,hk,rfl⟩:=mem_iff_getElem.1 hs;rcases Nat.lt_trichotomy k w with CE|rfl|CE;have:=h1 k CE hk;rw[bF]at this;omega;omega;have:=a1 w k c hk CE;have:=a2 l[w] (getElem_mem _);omega;have d:decide ((w:Int)<l.length)=false:=by simp;omega
 simp only[d,au,ai];rw[KP λs hs hh=>?_];obtain⟨k,hk,rfl⟩:=mem_iff_getElem.1 hs;have:=h1 k (by omega) hk;rw[bF]at this;omega
theorem Nh{l:List aK}{y:Int}(h:Can l)(hl:l.length<1099511627776)(hn:l.length<n):Cn n l y=some (ia l y):=by
 obtain⟨a1,a2⟩:=h;rw[List.pairwise_iff_getElem]at a1
 have run:=adL (l:=l) (key:=y) (φ:=λ(y1:aK×Int×Unit)=>lY y1.1 y1.2.1) (λ s=>decide (s.to<=y)) (λ s=>if s.to<=y then -1 else 1)
  (λ s=>by show lY s y=_;unfold lY;by_cases c:s.to<=y<;>simp[c]) (λ s=>by by_cases c:s.to<=y<;>simp[c])
  (λ i j hj hij hp=>by rw[bF]at hp ⊢;have:=a1 i j (by omega) hj hij;have:l[j].from_<l[j].to:=a2 l[j] (getElem_mem _);omega) hl l.length 0 l.length n (by omega) (by omega) (aA _) (λ k hk=>by omega) (λ k hk hkl=>by omega) hn
 obtain⟨w,hw,e,h1,h2⟩:=run;unfold Cn jN;rw[amu];have e':iter (Wq l y λ(y1:aK×Int×Unit)=>lY y1.1 y1.2.1) n (0,(l.length:Nat))=some (w:Int):=e;rw[e'];simp only[ai];have ao:∀b:Int,∃bb,((bif (decide (w<(l.length:Int)))then(bz l w).bind λx2=>(lY x2 y).bind λr2=>some (w,(r2==b))else some (w,false)):Option (Int×Bool))=some ((w:Int),bb):=by
  intro b;by_cases c:w<l.length;have d:decide ((w:Int)<l.length)=true:=by simpa using c
  rw[d];simp only[aj];rw[bJ c,ai];unfold lY;cases decide (l[w].to<=y)<;>exact⟨_,rfl⟩;have d:decide ((w:Int)<l.length)=false:=by simp;omega
  rw[d];exact⟨_,rfl⟩
 have⟨bb,hbb⟩:=ao 0;rw[hbb,ai];simp only[];by_cases c:w<l.length;have d:decide ((w:Int)<l.length)=true:=by simpa using c
 simp only[d,aj,bJ c,ai];have hx1:=h2 w (aA _) c;rw[dL]at hx1;congr 1;rw[kS,bF,Na];constructor;exact λhf=>⟨l[w],getElem_mem _,hf,by omega⟩;rintro⟨s,hs,g1,g2⟩;obtain⟨k,hk,rfl⟩:=mem_iff_getElem.1 hs;rcases Nat.lt_trichotomy k w with CE|rfl|CE;have:=h1 k CE hk;rw[bF]at this;omega;exact g1;have:=a1 w k c hk CE;omega;have d:decide ((w:Int)<l.length)=false:=by simp;omega
 simp only[d,au];congr 1;symm;cases hh:ia l y with
 |false=>rfl
 |true=>
  obtain⟨s,hs,g1,g2⟩:=(Na _ _).1 hh;obtain⟨k,hk,rfl⟩:=mem_iff_getElem.1 hs;have:=h1 k (by omega) hk;rw[bF]at this;omega
theorem Ni{l:List (List aK)}(hf:l.flatten.length<1099511627776)(hl:l.length<1099511627776)(hn:l.length<n):yK n l=some l.flatten:=Mt (aK.mk 0 0) (b:=16) hf (by omega) hl hn
theorem Nj(l:List aK):(l.flatMap λr=>[r.from_,r.to]).length=2*l.length:=by
 induction l with
 |nil=>rfl
 |cons x l ih=>simp[ih];omega
theorem RZ{l:List aK}(hl:l.length<10995116277)(hn:l.length<n):iter (vZ l) n (0,[])=some (l.flatMap λr=>[r.from_,r.to]):=by
 have:=gL (l:=l) (step:=vZ l) (λ i s=>(i,s)) (λ r s=>s++[r.from_,r.to]) (λ s=>s) (λ i s=>s.length<=2*i)
  (λ i hi s hs=>?_) (λ s hs=>by simp[vZ]) n hn [] (aA _)
 rw[ll]at this;rw[this];have gen:∀(ys:List aK) s,ys.foldl (λ s r=>s++[r.from_,r.to]) s=s++ys.flatMap λr=>[r.from_,r.to]:=by
  intro ys
  induction ys with
  |nil=>intro s;simp
  |cons y ys ih=>intro s;simp[ih]
 congr 1;simpa using gen l [];have hi':decide ((i:Int)<(l.length:Nat))=true:=by simpa using hi
 have ap:bP s.length s.length (sub ([l[i].from_,l[i].to]:List Int) 0 2).length 2 8=true:=eY (n:=2) (by omega) (by simp[maxLen];omega);simp only[vZ,hi',aj,aV hi,bG hi,ai,ap,gY,aN];refine⟨?_,by simp;omega⟩;rw[aR (by omega)];rfl
theorem Wt{α β:Type}(p:α->Bool)(f:β->α->β):∀(l:List α)(s:β),(l.filter p).foldl f s=l.foldl (λ s x=>bif p x then f s x else s) s
 |[],s=>rfl
 |x::l,s=>by
  rw[List.filter_cons,foldl_cons];cases h:p x with
  |true|false=>simp;exact Wt p f l _
theorem Wu out (p:aK):(ext out p).length<=out.length+1:=by
 unfold ext;cases out.getLast? with
 |none=>simp
 |some q=>simp;cases q.to==p.from_<;>simp<;>omega
theorem Wv(a b:List aK):(kx a b).length<=2*(a.length+b.length):=by have h:=rD (kV (λ a b=>decide (a<b)) ((a++b).flatMap λr=>[r.from_,r.to]));rw[eT,Nj,fQ]at h;exact h
theorem Yn(keep:Bool->Bool->Bool)(a b:List aK):(ug keep a b).length<=2*(a.length+b.length):=by
 have gen:∀(ys out:List aK),(ys.foldl ext out).length<=out.length+ys.length:=by
  intro ys
  induction ys with
  |nil=>intro out;simp
  |cons y ys ih=>
   intro out;simp;have:=ih (ext out y);have:=Wu out y;omega
 have h:=gen ((jT aK.mk (kx a b)).filter λp=>keep (ia a p.from_) (ia b p.from_)) [];have h2:=length_filter_le (λ p=>keep (ia a p.from_) (ia b p.from_)) (jT aK.mk (kx a b));have h3:=(rP aK.mk (kx a b)).1;have h4:=Wv a b;simp at h;unfold ug;omega
theorem adN{keep:Bool->Bool->Bool}{φ:(Bool×Bool×Unit)->Option Bool}(hφ:∀p q,φ (p,q,())=some (keep p q)){a b:List aK}(ha:Can a)(hb:Can b)(hl:a.length+b.length<1099511627)(hn:2*(a.length+b.length)+2<n):Hu n a b φ=some (ug keep a b):=by
 have fl:[a,b].flatten=a++b:=by simp
 have s2:(sub ([a,b]:List (List aK)) 0 2)=[a,b]:=rfl;have q2:aE ([a,b]:List (List aK)).length 2=true:=rfl;have hys:=Wv a b;have hfl:((a++b).flatMap λr=>[r.from_,r.to]).length=2*(a.length+b.length):=by rw[Nj,fQ]
 unfold Hu;rw[s2,q2];simp only[aj];rw[Ni (by rw[fl,fQ];omega) (by simp) (by simp;omega),fl];simp only[ai,length_nil,aN,aj,RZ (l:=a++b) (n:=n) (by rw[fQ];omega) (by rw[fQ];omega)];rw[pO (by rw[hfl];omega) (by rw[hfl];omega)];simp only[ai,eT,aN,aj];rw[tY (by rw[eT,hfl];omega) (by rw[eT,hfl];omega)];simp only[ai];have hE:jc (kV ot ((a++b).flatMap λr=>[r.from_,r.to]))=kx a b:=rfl;rw[hE];have⟨p1,p2⟩:=rP aK.mk (kx a b);have key:iter (wh n a b φ ((),kx a b)) n ((1:Int),([]:List aK))=some (ug keep a b):=by
  have:=gL (l:=jT aK.mk (kx a b)) (step:=wh n a b φ ((),kx a b)) (λ i (s:List aK)=>(((i+1:Nat):Int),s)) (λ p s=>bif keep (ia a p.from_) (ia b p.from_)then ext s p else s) (λ s=>s) (λ i s=>s.length<=i)
   (λ i hi s hs=>?_) (λ s hs=>?_) n (by omega) [] (aA _)
  rw[show ((0+1:Nat):Int)=1 from rfl]at this;rw[this,ug,Wt];have hi2:i+1<(kx a b).length:=by omega
  have hi1:i<(kx a b).length:=by omega
  have d:decide (((i+1:Nat):Int)<(((kx a b).length:Nat):Int))=true:=by simp;omega
  have wp:i64.wrap ((i+1:Nat)-1)=(i:Nat):=by rw[nu (by omega) (by omega)];rfl
  have pe:(jT aK.mk (kx a b))[i]=aK.mk (kx a b)[i] (kx a b)[i+1]:=p2 i hi2 hi;rw[pe];have lx:=Wu s (aK.mk (kx a b)[i] (kx a b)[i+1]);have ap:bP s.length s.length (sub ([(aK.mk (kx a b)[i] (kx a b)[i+1])]:List aK) 0 1).length 1 16=true:=eY (n:=1) (by omega) (by simp[maxLen];omega);have sb:(sub ([(aK.mk (kx a b)[i] (kx a b)[i+1])]:List aK) 0 1)=[aK.mk (kx a b)[i] (kx a b)[i+1]]:=rfl;refine⟨?_,by cases keep (ia a (kx a b)[i]) (ia b (kx a b)[i])<;>simp<;>omega⟩;simp only[wh,d,aj,wp,aV hi1,bG hi1,ai,Nh (n:=n) ha (show a.length<1099511627776 by omega) (show a.length<n by omega),Nh (n:=n) hb (show b.length<1099511627776 by omega) (show b.length<n by omega),hφ];cases hk:keep (ia a (kx a b)[i]) (ia b (kx a b)[i])with
  |false=>
   simp only[Bool.not_false,aj,aN,ai,au];rw[aR (by omega)]
  |true=>
   simp only[Bool.not_true,au,aj];rcases List.eq_nil_or_concat s with rfl|⟨s0,q,Is⟩;have d0:decide ((([]:List aK).length:Nat)>0)=false:=(by simp);simp only[d0,au,ai,aV hi2,bG hi2,aj,ap,gY,aN];rw[aR (by omega)];rfl;rw[List.concat_eq_append]at Is;subst Is;have d0:decide (((((s0++[q]).length:Nat):Int))>0)=true:=(by simp<;>omega);have B3:(s0++[q]).length=s0.length+1:=(by simp);have wq:i64.wrap (((s0++[q]).length:Nat)-1)=(s0.length:Nat):=(by rw[nu (by simp) (by omega),B3];rfl);have V2:ct (s0.length:Nat) (s0++[q]).length=true:=aV (by omega);have g:bz (s0++[q]) ((0:Nat)+(s0.length:Nat))=some q:=(by rw[oM];simp);have z:(((0:Nat):Int)+(s0.length:Nat)).toNat=s0.length:=(by simp);have st:(s0++[q]).set s0.length (aK.mk q.from_ (kx a b)[i+1])=s0++[⟨q.from_,(kx a b)[i+1]⟩]:=(by simp);simp only[d0,aj,wq,V2,g,ai,agf];cases hj:q.to==(kx a b)[i]with
   |true=>
    simp only[aj,aV hi2,bG hi2,ai,z,st];have e:aE (s0++[q]).length (s0++[(⟨q.from_,(kx a b)[i+1]⟩:aK)]).length=true:=(by simp);simp only[e,aj,ai,aN];rw[aR (by omega)]
   |false=>
    rw[sb]at ap;simp only[au,aV hi2,bG hi2,ai,aj,sb,ap,gY,aN];rw[aR (by omega)]
  have d:decide ((((jT aK.mk (kx a b)).length+1:Nat):Int)<((kx a b).length:Nat))=false:=by simp;omega
  simp only[wh,d,au,aN,aj]
 rw[key];simp
theorem Cw(keep:Bool->Bool->Bool)(a b:List ax):qQ keep a b=(bg (a++b)).map λs=>⟨s.x0,s.x1,ug keep (dh a s.x0) (dh b s.x0)⟩:=by
 have gen:∀es:List Int,jT (λ x x'=>(⟨x,x',ug keep (dh a x) (dh b x)⟩:bQ)) es=(jT (λ x x'=>(⟨x,x',dh (a++b) x⟩:bQ)) es).map λs=>⟨s.x0,s.x1,ug keep (dh a s.x0) (dh b s.x0)⟩:=by
  intro es
  match es with
  |[]|[_]=>rfl
  |x::y::l=>
   rw[qh,qh,bH];congr 1;have:∀es:List Int,jT (λ x x'=>(⟨x,x',ug keep (dh a x) (dh b x)⟩:bQ)) es=(jT (λ x x'=>(⟨x,x',dh (a++b) x⟩:bQ)) es).map λs=>⟨s.x0,s.x1,ug keep (dh a s.x0) (dh b s.x0)⟩:=by
    intro es
    induction es with
    |nil=>rfl
    |cons x es ih=>
     cases es with
     |nil=>rfl
     |cons y es=>rw[qh,qh,bH,ih]
   exact this (y::l)
 exact gen (iJ (a++b))
theorem Yo{keep:Bool->Bool->Bool}{φ:(Bool×Bool×Unit)->Option Bool}(hφ:∀p q,φ (p,q,())=some (keep p q)){a b:List ax}(ha:a.length<1099511627776)(hb:b.length<1099511627776)(hna:a.length<n)(hnb:b.length<n)(hn:1000<=n):Eg n a b φ=some (qR keep a b):=by
 unfold Eg qR;rw[kK ha hna hn,ai];cases hra:cH a with
 |false=>rfl
 |true=>
  rw[kK hb hnb hn];simp;cases hrb:cH b with
  |false=>rfl
  |true=>
   have⟨a1,a2,_⟩:=uf hra;have⟨b1,b2,_⟩:=uf hrb;have fa:[a].flatten=a:=(by simp);have fb:[b].flatten=b:=(by simp);have fab:[a,b].flatten=a++b:=(by simp);have hab:∀r∈a++b,d6 r=true:=λr hr=>(by rcases bL.1 hr with hr|hr;exact a1 r hr;exact b1 r hr);have sa:oF n [a]=some (bg a):=by
    have:=xI (n:=n) (ls:=[a]) (by rw[fa];exact a1) (by rw[fa];omega) (by simp) (by rw[fa];omega) (by simp;omega)
    rwa [fa]at this
   have sb:oF n [b]=some (bg b):=by
    have:=xI (n:=n) (ls:=[b]) (by rw[fb];exact b1) (by rw[fb];omega) (by simp) (by rw[fb];omega) (by simp;omega)
    rwa [fb]at this
   have lab:(a++b).length=a.length+b.length:=fQ;have sab:oF n [a,b]=some (bg (a++b)):=by
    have:=xI (n:=n) (ls:=[a,b]) (by rw[fab];exact hab) (by rw[fab,lab];omega) (by simp) (by rw[fab,lab];omega) (by simp;omega)
    rwa [fab]at this
   have e1:(sub ([a]:List (List ax)) 0 1)=[a]:=rfl;have e2:(sub ([b]:List (List ax)) 0 1)=[b]:=rfl;have e3:(sub ([a,b]:List (List ax)) 0 2)=[a,b]:=rfl;have q1:aE ([a]:List (List ax)).length 1=true:=rfl;have q2:aE ([b]:List (List ax)).length 1=true:=rfl;have q3:aE ([a,b]:List (List ax)).length 2=true:=rfl;have la:=tZ a;have lb:=tZ b;have lS:=tZ (a++b);rw[lab]at lS;have mc:∀x,(dh a x).length<=200/\(dh b x).length<=200:=λx=>⟨Nat.le_trans (yO a x) a2,Nat.le_trans (yO b x) b2⟩;have lm:∀x,(ug keep (dh a x) (dh b x)).length<=800:=λx=>(by have:=Yn keep (dh a x) (dh b x);have:=mc x;omega);have key:iter (qJ n φ (bg a) (bg b) (bg (a++b))) n ((0:Int),bg (a++b))=some (qQ keep a b):=by
    have:=mY (step:=qJ n φ (bg a) (bg b) (bg (a++b))) (λ i=>((i:Int),(qQ keep a b).take i++(bg (a++b)).drop i)) (bg (a++b)).length (qQ keep a b) (λ i hi=>?_) ?_ n (by omega);simpa using this;have d:decide ((i:Int)<(((bg (a++b)).length:Nat):Int))=true:=(by simpa using hi);have lc:(qQ keep a b).length=(bg (a++b)).length:=(by rw[Cw,length_map]);have lt:((qQ keep a b).take i).length=i:=(by rw[length_take];omega);have hd:(bg (a++b)).drop i=(bg (a++b))[i]::(bg (a++b)).drop (i+1):=List.drop_eq_getElem_cons hi;have g:bz ((qQ keep a b).take i++(bg (a++b)).drop i) (((0:Nat):Int)+(i:Nat))=some (bg (a++b))[i]:=(by rw[oM,oK (by omega),lt,hd];simp);have st:∀s:bQ,((qQ keep a b).take i++(bg (a++b)).drop i).set i s=(qQ keep a b).take i++s::(bg (a++b)).drop (i+1):=(by intro s;rw[List.set_append_right _ _ (by omega),lt,hd,Nat.sub_self];rfl);have z:(((0:Nat):Int)+(i:Nat)).toNat=i:=(by simp);have tk:(qQ keep a b).take (i+1)=(qQ keep a b).take i++[⟨(bg (a++b))[i].x0,(bg (a++b))[i].x1,ug keep (dh a (bg (a++b))[i].x0) (dh b (bg (a++b))[i].x0)⟩]:=(by rw[kL (by omega)];congr 2;simp[Cw]);have hm:=mc (bg (a++b))[i].x0;have mg:Hu n (dh a (bg (a++b))[i].x0) (dh b (bg (a++b))[i].x0) φ=some (ug keep (dh a (bg (a++b))[i].x0) (dh b (bg (a++b))[i].x0)):=
     adN hφ (Nc a1 _).1 (Nc b1 _).1 (by omega) (by omega)
    have at1:V6 n (bg a) (bg (a++b))[i].x0=some (dh a (bg (a++b))[i].x0):=(by rw[adM (Ia a) (by omega) (by omega),Kq]);have at2:V6 n (bg b) (bg (a++b))[i].x0=some (dh b (bg (a++b))[i].x0):=(by rw[adM (Ia b) (by omega) (by omega),Kq]);simp only[qJ,d,aj,aV hi,g,ai,jq,at1,at2,mg,aN,z,st];rw[aR (by omega),tk,aT];rfl;have lc:(qQ keep a b).length=(bg (a++b)).length:=(by rw[Cw,length_map]);have d:decide (((bg (a++b)).length:Nat)<((bg (a++b)).length:Nat))=false:=(by simp);simp[qJ,d,au,List.drop_length,List.append_nil];rw[take_of_length_le (by omega)]
   have lc:(qQ keep a b).length=(bg (a++b)).length:=(by rw[Cw,length_map]);have cc:∀s∈qQ keep a b,s.column.length<=800:=(by intro s hs;rw[Cw,mem_map]at hs;obtain⟨t,_,rfl⟩:=hs;exact lm _);have sl:sub (qQ keep a b) 0 (bg (a++b)).length=qQ keep a b:=(by rw[<- lc,jq]);simp[Bool.not_true,au,e1,e2,e3,q1,q2,q3,aj,sa,sb,sab,ai,jq,aN,key,sl,lc];rw[Rq (b:=800) (by omega) (by omega) cc (by omega) (by omega)];simp[ai,yJ,if_true];by_cases q7:(nV (qQ keep a b)).length>200;have:decide (((nV (qQ keep a b)).length:Int)>200)=true:=(by simp;omega);simp[this,aj,ai,q7,if_true];have:decide (((nV (qQ keep a b)).length:Int)>200)=false:=(by simp;omega);simp[this,au,ai,q7,if_false]
theorem Nk{a b:List ax}(ha:a.length<1099511627776)(hb:b.length<1099511627776)(hna:a.length<n)(hnb:b.length<n)(hn:1000<=n):Co n a b=some (qR (λ p q=>p&&q) a b):=by unfold Co;rw[Yo (keep:=λp q=>p&&q) (λ p q=>by show xu p q=_;unfold xu;cases p<;>rfl) ha hb hna hnb hn];rfl
theorem Nl{keep:Bool->Bool->Bool}(a b:List ax):(qR keep a b).1.length<=200:=by unfold qR;split;split;simp;show(nV _).length<=200;omega;simp
def lJ(r:ax):Int:=(r.x1-r.x0)*(r.y1-r.y0)
def KQ(l:List ax):Int:=(l.map lJ).sum
theorem Am{r:ax}(h:d6 r=true):0<=lJ r/\lJ r<=1099511627776:=by simp at h;unfold lJ;refine⟨Int.mul_nonneg (by omega) (by omega),?_⟩;have:=Int.mul_le_mul (show r.x1-r.x0<=1048576 by omega) (show r.y1-r.y0<=1048576 by omega) (by omega) (by omega);omega
theorem Ww:∀{l:List ax},(∀ r∈l,d6 r=true)->0<=KQ l/\KQ l<=1099511627776*l.length
 |[],_=>by simp[KQ]
 |r::l,h=>by
  have h1:=Am (h r List.mem_cons_self);have h2:=Ww (l:=l) λq hq=>h q (cZ _ hq);have e:KQ (r::l)=lJ r+KQ l:=rfl;rw[e,fU]
  push_cast
  omega
theorem Ib{l:List ax}{φ:(ax×Unit)->Option Bool}(p:ax->Bool)(h:∀x∈l,φ (x,())=some (p x))(hl:l.length<1099511627776)(hn:l.length<n):tV n l φ=some (AA p l):=iY p h hl hn
theorem sD{l:List ax}{φ:(ax×Unit)->Option Bool}(p:ax->Bool)(h:∀x∈l,φ (x,())=some (p x))(hl:l.length<1099511627776)(hn:l.length<n):jD n l φ=some (l.any p):=by unfold jD;rw[Ib p h hl hn,ai,wZ]
theorem ZX:∀(l:List Int) x,(l++[x]).sum=l.sum+x
 |[],x=>by simp
 |a::l,x=>by rw[List.cons_append,List.sum_cons,List.sum_cons,ZX l x];omega
theorem PK{r:ax}(h:d6 r=true):rH r=some (lJ r):=by have hb:=Am h;unfold rH xY;rw[jS,h];simp;simp at h;unfold lJ at*;rw[aM (x:=r.x1-r.x0),aM (x:=r.y1-r.y0),aM (by omega) (by omega)]
theorem KR{a:List ax}(ha:a.length<=900)(hn:1000<=n):Jm n a=some (bif cH a then KQ a else 0):=by
 unfold Jm;rw[kK (by omega) (by omega) hn];simp;cases hr:cH a with
 |false=>rfl
 |true=>
  have ok:=(uf hr).1;have:=mY (step:=Eh a) (λ i=>(KQ (a.take i),(i:Nat))) a.length (KQ a) (λ i hi=>?_) ?_ n (by omega);have e:KQ (a.take 0)=0:=rfl;rw[e,ll]at this;simp[this];have c:decide ((i:Int)<a.length)=true:=by simpa using hi
  have h1:=Ww (l:=a.take i) λr hr=>ok r (List.mem_of_mem_take hr);rw[length_take]at h1;have h2:=Am (ok _ (getElem_mem hi));have e:KQ (a.take (i+1))=KQ (a.take i)+lJ a[i]:=by rw[kL hi];unfold KQ;rw[map_append];exact ZX _ _
  simp only[Eh,c,aj,bJ hi,ai,PK (ok _ (getElem_mem hi))];rw[aR (by omega),aM (by omega) (by omega),e];simp[Eh]
theorem PL{α:Type}(p:α->Bool) l:(match oN p l with|some _=>true|none=>false)=l.any p:=by have:=sS p l;rw[<- this];cases oN p l<;>rfl
def Sx(p q:ax):Bool:=decide (max p.x0 q.x0<min p.x1 q.x1)&&decide (max p.y0 q.y0<min p.y1 q.y1)
def N2(a b:List ax):Bool:=a.any λp=>b.any λq=>Sx p q
theorem agh{a b:List ax}(ha:a.length<1099511627776)(hb:b.length<1099511627776)(hna:a.length<n)(hnb:b.length<n):TM n a b=some (N2 a b):=by
 unfold TM N2;rw[sD (λ p=>b.any λq=>Sx p q) (λ p _=>?_) ha hna];rfl;show Eo n p b=_;unfold Eo;rw[sD (λ q=>Sx p q) (λ q _=>?_) hb hnb];rfl;show vE q p=_;unfold vE Sx;have e1:max q.x0 p.x0=max p.x0 q.x0:=by omega
 have e2:min q.x1 p.x1=min p.x1 q.x1:=by omega
 have e3:max q.y0 p.y0=max p.y0 q.y0:=by omega
 have e4:min q.y1 p.y1=min p.y1 q.y1:=by omega
 first
  |(cases decide (max p.x0 q.x0<min p.x1 q.x1)<;>rfl)
  |(rw [e1,e2,e3,e4];cases decide (max p.x0 q.x0<min p.x1 q.x1)<;>rfl)
theorem agi{a b:List ax}(hl:a.length<1099511627776)(hn:a.length<n):TK n a b=some (decide (a=b)):=by unfold TK;rw[Ct hl hn];rfl
abbrev wv(a b:ax):Bool:=decide (a.y0<b.y0)
theorem ahV:Go.Sort.SWO wv where
 irrefl x:=by simp[wv]
 trans x y z h1 h2:=by simp only[wv,bF]at *;omega
 ntrans x y z h1 h2:=by simp only[wv,dL]at *;omega
instance:Inhabited ax:=⟨ax.mk 0 0 0 0⟩
theorem JD{l:List ax}{φ:(ax×ax×Unit)->Option Int}(f:ax->ax->Int)(hφ:∀x y,φ (x,y,())=some (f x y))(hf:∀x y,decide (f x y<0)=wv x y)(hl:l.length<1099511627776)(_:l.length<n):uY n l φ=some (rV wv l):=
 adz f hφ hf ahV hl
structure aoH(R:List bQ):Prop where
 runs:Runs R
 len:R.length<=200
 col:∀s∈R,Can s.column/\∀q∈s.column,0<=q.from_/\q.from_<q.to/\q.to<=1048576
 xs:∀s∈R,0<=s.x0/\s.x0<s.x1/\s.x1<=1048576
 z7:(R.flatMap λs=>s.column.map (·.from_)).length<=200
theorem agj(p:Nat->Bool)(N:Nat):(oN p (List.range N)=none->(List.range N).any p=false)/\(∀ i,oN p (List.range N)=some i->(List.range N).any p=true):=by refine⟨λ h=>?_,λi h=>?_⟩;rw[<- sS,h];rfl;rw[<- sS,h];rfl
theorem Ic{W O:Type}{step:Int->Option (Int⊕(W⊕O))}(N:Nat)(p:Nat->Bool)(w:W)(o:O)
 (h:∀i,i<N->step i=some (bif p i then .inr (.inr o)else .inl (i+1:Nat)))
 (hend:step N=some (.inr (.inl w))) (n:Nat) (hn:N<n):iter step n 0=some (bif (List.range N).any p then .inr o else .inl w):=by
 have:=rU (l:=List.range N) (step:=step) (λ i=>(i:Nat)) p w (λ _=>o) (λ i hi=>by rw[List.length_range]at hi;rw[List.getElem_range];exact h i hi) (by rw[List.length_range];exact hend) n (by rw[List.length_range];exact hn);rw[ll]at this;rw[this];have⟨r1,r2⟩:=agj p N;cases hf:oN p (List.range N)with
 |none=>rw[r1 hf];rfl
 |some i=>rw[r2 i hf];rfl
theorem Ie{p:List eD}(hl:p.length<=1000)(hn:2000<=n):iter (p9 n p (gP p)) n 0=some (bif (List.range p.length).any (MM p)then .inr false else .inl ()):=by
 refine Ic p.length (MM p) () false (λ i hi=>?_) ?_ n (by omega);have nz:((p.length:Int) !=0)=true:=by simp;intro h;rw[h]at hi;simp at hi
 have md:(i+1)%p.length<p.length:=Nat.mod_lt _ (by omega);have w:i64.wrap (i+1)=(i+1:Nat):=aR (by omega);have g1:bz (gP p) ((0:Nat)+(i:Nat))=some (jE p i):=by rw[bG (by rw[dY];exact hi),yP]
 have g2:bz (gP p) ((0:Nat)+((i+1)%p.length:Nat))=some (jE p ((i+1)%p.length)):=by rw[bG (by rw[dY];exact md),yP]
 obtain⟨r,hr1,hr2⟩:=KO (n:=n) (pS p 0) (pS p i) (by omega);have g3:bz p 0=some (pS p 0):=by rw[amb (by omega),<- TN]
 have g4:bz p (i:Nat)=some (pS p i):=by rw[bJ hi,<- TN]
 have dz:decide ((i:Int)>0)=decide (0<i):=by rw[kS];simp
 have pt:eD.mk (jE p i).ly (jE p i).pH=pS p i:=rfl;simp only[p9,dY,dV hi,aj,aV hi,g1,g2,ai,nz,w,ZV,aV md,pt,Nb,nH,PG,g3,g4,hr1,hr2,dz,Option.map_some];unfold MM;generalize TP (pS p i)=b1;generalize (((jE p i).ly==(jE p i).mC)==((jE p i).pH==(jE p i).ut))=b2;generalize (ux (jE p i)==ux (jE p ((i+1)%p.length)))=b3;generalize decide (0<i)=b4;generalize TQ (pS p 0) (pS p i)=b5;cases b1<;>cases b2<;>cases b3<;>cases b4<;>cases b5<;>rfl;simp[p9,dY]
theorem Ig{p:List eD}(hl:p.length<=1000)(hn:2000<=n){i:Nat}(hi:i<p.length):
 iter (ji (gP p) (i:Nat)) n ((i+2:Nat))=some (bif (List.range p.length).any λk=>decide (i+2<=k)&&RY p i k then .inr (.inr (.inr false))else .inl ()):=by
 have st:∀k,k<p.length->ji (gP p) (i:Nat) (k:Nat)=some (bif RY p i k then .inr (.inr (.inr (.inr false)))else .inl (k+1:Nat)):=by
  intro k hk;have g1:bz (gP p) ((0:Nat)+(i:Nat))=some (jE p i):=by rw[bG (by rw[dY];exact hi),yP]
  have g2:bz (gP p) ((0:Nat)+(k:Nat))=some (jE p k):=by rw[bG (by rw[dY];exact hk),yP]
  have w:i64.wrap (i64.wrap ((i:Nat)+(p.length:Nat))-(k:Nat))=(i+p.length-k:Nat):=by rw[aM (x:=(i:Nat)+(p.length:Nat)),aM (by omega) (by omega)];omega
  have dz:decide (((i+p.length-k:Nat):Int)>1)=decide (i+p.length-k>1):=by rw[kS,bF,bF];omega
  simp only[ji,dY,dV hk,aj,aV hi,aV hk,g1,g2,ai,w,dz,Cv,PG,Option.map_some,aX k];unfold RY;cases decide (i+p.length-k>1)<;>cases S0 (jE p i) (jE p k)<;>rfl
 have main:∀m k,k+m=p.length->∀f,m<f->iter (ji (gP p) (i:Nat)) f (k:Nat)=some (bif (List.range p.length).any λj=>decide (k<=j)&&RY p i j then .inr (.inr (.inr false))else .inl ()):=by
  intro m
  induction m with
  |zero=>
   intro k hk f hf;obtain⟨f,rfl⟩:∃g,f=g+1:=⟨f-1,by omega⟩;have:k=p.length:=(by omega);subst this;have e:((List.range p.length).any λj=>decide (p.length<=j)&&RY p i j)=false:=(by rw[Bool.eq_false_iff];intro h;rw[any_eq_true]at h;obtain⟨j,h1,h2⟩:=h;rw[List.mem_range]at h1;simp at h2;omega);rw[e];refine cu ?_;simp[ji,dY]
  |succ m ih=>
   intro k hk f hf;obtain⟨f,rfl⟩:∃g,f=g+1:=⟨f-1,by omega⟩;have hkl:k<p.length:=(by omega);have h1:=st k hkl;cases hb:RY p i k with
   |true=>
    rw[hb]at h1;have e:((List.range p.length).any λj=>decide (k<=j)&&RY p i j)=true:=(by rw[any_eq_true];exact⟨k,List.mem_range.2 hkl,by simp[hb]⟩);rw[e];exact cu h1
   |false=>
    rw[hb]at h1;rw[dM h1,ih (k+1) (by omega) f (by omega)];congr 2;rw[kS,any_eq_true,any_eq_true];constructor;rintro⟨j,j1,j2⟩;simp at j2;exact⟨j,j1,by simp;exact⟨by omega,j2.2⟩⟩;rintro⟨j,j1,j2⟩;simp at j2;refine⟨j,j1,?_⟩;simp;refine⟨?_,j2.2⟩;rcases Nat.lt_or_ge k j with h|h;omega;have:j=k:=(by omega);subst this;rw[hb]at j2;simp at j2
 by_cases h2:i+2<=p.length;exact main (p.length-(i+2)) (i+2) (by omega) n (by omega);obtain⟨n,rfl⟩:∃g,n=g+1:=⟨n-1,by omega⟩;have e:((List.range p.length).any λj=>decide (i+2<=j)&&RY p i j)=false:=by rw[Bool.eq_false_iff];intro h;rw[any_eq_true]at h;obtain⟨j,h1,h2⟩:=h;rw[List.mem_range]at h1;simp at h2;omega
 rw[e];have d:decide (((i+2:Nat):Int)<(p.length:Nat))=false:=by rw[dL];omega
 refine cu ?_;simp only[ji,dY,d,au]
theorem Ih{p:List eD}(hl:p.length<=1000)(hn:2000<=n):iter (qa n (gP p)) n 0=some (bif (List.range p.length).any λi=>(List.range p.length).any λk=>decide (i+2<=k)&&RY p i k then .inr false else .inl ()):=by
 refine Ic p.length _ () false (λ i hi=>?_) ?_ n (by omega);have w2:i64.wrap (i+2)=(i+2:Nat):=by rw[aM (by omega) (by omega)];omega
 simp only[qa,dY,dV hi,aj,w2,Ig hl hn hi,aX i];cases (List.range p.length).any λk=>decide (i+2<=k)&&RY p i k<;>rfl;simp[qa,dY]
theorem PN p (hn:2000<=n):vB n p=some (PI p):=by
 unfold vB PI;by_cases h4:p.length<4;have d1:decide ((p.length:Int)<4)=true:=by simp;omega
 have d2:decide (4<=p.length)=false:=by simp;omega
 rw[d1,d2];rfl;have d1:decide ((p.length:Int)<4)=false:=by simp;omega
 have d2:decide (4<=p.length)=true:=by simp;omega
 by_cases h60:p.length>60;have d3:decide ((p.length:Int)>60)=true:=by simp;omega
 have d4:decide (p.length<=60)=false:=by simp;omega
 rw[d1,d2,d3,d4];rfl;have d3:decide ((p.length:Int)>60)=false:=by simp;omega
 have d4:decide (p.length<=60)=true:=by simp;omega
 have g:bz (gP p) ((0:Nat)+0)=some (jE p 0):=by have:=bG (l:=gP p) (i:=0) (by rw[dY];omega);rw[yP]at this;exact this
 have i0:ct 0 (gP p).length=true:=by have:=aV (i:=0) (n:=(gP p).length) (by rw[dY];omega);simpa using this
 rw[d1,d2,d3,d4];simp only[au,ai,Al (n:=n) (p:=p) (by omega) (by omega),Ie (n:=n) (p:=p) (by omega) hn,Bool.true_and];cases (List.range p.length).any (MM p)with
 |true=>rfl
 |false=>
  simp only[au,gF,Ih (n:=n) (p:=p) (by omega) hn];cases (List.range p.length).any λi=>(List.range p.length).any λk=>decide (i+2<=k)&&RY p i k with
  |true=>rfl
  |false=>
   simp only[au,gF,i0,aj,g,ai,nH];rfl
def AP(p:List eD)(x:Int):List Int:=((gP p).filter λs=>!ux s&&(decide (min s.ly s.mC<=x)&&decide (x<max s.ly s.mC))).map (·.pH)
def E9(x0 x1:Int):List Int->List ax
 |a::b::l=>⟨x0,a,x1,b⟩::E9 x0 x1 l
 |_=>[]
def oc(p:List eD):List Int:=Hd (p.map (·.x))
def Wx(p:List eD):List ax:=(jT (λ a b=>E9 a b (kV ot (AP p a))) (oc p)).flatten
def xJ(p:List eD):List ax×Int:=if PI p=true then(if (Wx p).length>200 then([],6)else(Wx p,0))else([],10)
theorem agk{p:List eD}(h:PI p=true):4<=p.length/\p.length<=60:=by unfold PI at h;simp at h;exact⟨h.1,h.2.1⟩
theorem Fx{p:List eD}(hl:p.length<=1000)(hn:2000<=n):iter (l5 p) n (0,[])=some (p.map (·.x)):=by
 have:=gL (l:=p) (step:=l5 p) (λ i s=>(i,s)) (λ r s=>s++[r.x]) (λ s=>s) (λ i s=>s.length<=i)
  (λ i hi s hs=>?_) (λ s hs=>by simp[l5]) n (by omega) [] (aA _)
 rw[ll]at this;rw[this];have gen:∀(ys:List eD) s,ys.foldl (λ s r=>s++[r.x]) s=s++ys.map (·.x):=by
  intro ys
  induction ys with
  |nil=>intro s;simp
  |cons y ys ih=>intro s;rw[foldl_cons,ih];simp
 congr 1;simpa using gen p [];have ap:bP s.length s.length (sub ([(p[i]).x]:List Int) 0 1).length 1 8=true:=eY (n:=1) (by omega) (by simp[maxLen];omega);simp only[l5,dV hi,aj,bJ hi,ai,ap,gY,aN];refine⟨?_,by simp;omega⟩;rw[aR (by omega)];rfl
theorem Fy{p:List eD}(hl:p.length<=1000)(hn:2000<=n) es (i:Nat) (hi:i<es.length):iter (l6 ((),es) (gP p) (i:Nat)) n (0,[])=some (AP p es[i]):=by
 have:=gL (l:=gP p) (step:=l6 ((),es) (gP p) (i:Nat)) (λ i s=>(i,s)) (λ r s=>bif !ux r&&(decide (min r.ly r.mC<=es[i])&&decide (es[i] <max r.ly r.mC))then s++[r.pH]else s) (λ s=>s) (λ i s=>s.length<=i)
  (λ j hj s hs=>?_) (λ s hs=>by simp[l6]) n (by rw[dY];omega) [] (aA _)
 rw[ll]at this;rw[this];have gen:∀(ys:List jW) s,ys.foldl (λ s r=>bif !ux r&&(decide (min r.ly r.mC<=es[i])&&decide (es[i] <max r.ly r.mC))then s++[r.pH]else s) s=s++(ys.filter λs=>!ux s&&(decide (min s.ly s.mC<=es[i])&&decide (es[i] <max s.ly s.mC))).map (·.pH):=by
  intro ys
  induction ys with
  |nil=>intro s;simp
  |cons y ys ih=>
   intro s;rw[foldl_cons,ih,List.filter_cons];cases !ux y&&(decide (min y.ly y.mC<=es[i])&&decide (es[i] <max y.ly y.mC))<;>simp
 congr 1;exact gen (gP p) [];rw[dY]at hj;have g:bz (gP p) ((0:Nat)+(j:Nat))=some (gP p)[j]:=bG (by rw[dY];exact hj);have ap:bP s.length s.length (sub ([((gP p)[j]'(by rw[dY];exact hj)).pH]:List Int) 0 1).length 1 8=true:=eY (n:=1) (by omega) (by simp[maxLen];omega);generalize hr:(gP p)[j]'(by rw[dY];exact hj)=r at*;simp only[l6,dY,dV hj,aj,aV hj,g,ai,nH,aV hi,bG hi,PG,ap,gY,aN,aX j];cases ux r<;>cases decide (min r.ly r.mC<=es[i])<;>cases decide (es[i] <max r.ly r.mC)<;>refine⟨rfl,?_⟩<;>simp<;>omega
theorem ZY(x0 x1:Int):∀l:List Int,(E9 x0 x1 l).length<=l.length
 |[]|[_]=>by simp[E9]
 |a::b::l=>by have:=ZY x0 x1 l;simp[E9];omega
theorem Fz es (i:Nat) (hi:i+1<es.length) (he:es.length<=10000) (w2 r8:List Int) (hw:w2.length=r8.length) (hr:r8.length<=1000) out (ho:out.length<=10000000) (hn:2000<=n):
 iter (jI ((),es) (i:Nat) w2 r8) n (0,out)=some (out++E9 (es[i]'(by omega)) es[i+1] r8):=by
 have main:∀(m k:Nat) out,k+m=r8.length->out.length<=10000000+k->∀f,m<f->iter (jI ((),es) (i:Nat) w2 r8) f ((k:Nat),out)=some (out++E9 (es[i]'(by omega)) es[i+1] (r8.drop k)):=by
  intro m
  induction m using Nat.strongRecOn with
  |ind m ih=>
   intro k out hk hko f hf;obtain⟨f,rfl⟩:∃g,f=g+1:=⟨f-1,by omega⟩;have w1:i64.wrap (k+1)=(k+1:Nat):=aR (by omega);have w3:i64.wrap (k+2)=(k+2:Nat):=(by rw[aM (by omega) (by omega)];omega);have w4:i64.wrap (i+1)=(i+1:Nat):=aR (by omega);by_cases h2:k+1<r8.length;have d:decide (((k+1:Nat):Int)<(w2.length:Nat))=true:=(by rw[hw];exact dV h2);have ap:bP out.length out.length (sub ([(ax.mk (es[i]'(by omega)) (r8[k]'(by omega)) es[i+1] r8[k+1])]:List ax) 0 1).length 1 32=true:=eY (n:=1) (by omega) (by simp[maxLen];omega);have st:jI ((),es) (i:Nat) w2 r8 ((k:Nat),out)=some (.inl ((k+2:Nat),out++[ax.mk (es[i]'(by omega)) (r8[k]'(by omega)) es[i+1] r8[k+1]])):=(by simp only[jI,w1,w3,w4,d,aj,aV (show i<es.length by omega),bG (show i<es.length by omega),ai,aV (show k<w2.length by omega),bG (show k<r8.length by omega),aV hi,bG hi,aV (show k+1<w2.length by omega),bG h2,ap,gY,aN];rfl);have dr:r8.drop k=r8[k]::r8[k+1]::r8.drop (k+2):=(by rw[List.drop_eq_getElem_cons (by omega),List.drop_eq_getElem_cons h2]);rw[dM st,ih (m-2) (by omega) (k+2) _ (by omega) (by rw[fQ,List.length_singleton];omega) f (by omega),dr];simp[E9];have d:decide (((k+1:Nat):Int)<(w2.length:Nat))=false:=(by rw[hw,dL];omega);have e:E9 (es[i]'(by omega)) es[i+1] (r8.drop k)=[]:=by
    have hl:(r8.drop k).length<=1:=by rw[length_drop];omega
    match r8.drop k,hl with
    |[],_|[_],_=>rfl
    |_::_::_,h=>simp at h
   rw[e,List.append_nil];refine cu ?_;simp only[jI,w1,d,au,aN,aj]
 have:=main r8.length 0 out (by omega) (by omega) n (by omega);rw[ll,List.drop_zero]at this;exact this
theorem amv p:(oc p).length<=p.length:=by have h:=rD (kV ot (p.map (·.x)));rw[eT,length_map]at h;exact h
theorem Wy p x:(AP p x).length<=p.length:=by unfold AP;rw[length_map,<- dY p];exact length_filter_le _ _
theorem Ii{α:Type}(b:Nat):∀l:List (List α),(∀ x∈l,x.length<=b)->l.flatten.length<=l.length*b
 |[],_=>by simp
 |x::l,h=>by have h1:=Ii b l λy hy=>h y (cZ _ hy);have h2:=h x List.mem_cons_self;rw[List.flatten_cons,fQ,fU,Nat.add_mul];omega
theorem FB{p:List eD}(hl:p.length<=1000)(hn:2000<=n):
 iter (l7 n ((),oc p) (gP p)) n (0,[])=some (Wx p):=by
 have hx:=amv p;obtain⟨p1,p2⟩:=rP (λ a b=>E9 a b (kV ot (AP p a))) (oc p)
 let C:=jT (λ a b=>E9 a b (kV ot (AP p a))) (oc p)
 have hC:C.length=(oc p).length-1:=p1;have cl:∀c∈C,c.length<=1000:=by intro c hc;obtain⟨i,hi,rfl⟩:=mem_iff_getElem.1 hc;have:=p2 i (by omega) hi;show(C[i]).length<=1000;rw[show C[i]=_ from this];have h1:=ZY (oc p)[i] (oc p)[i+1] (kV ot (AP p (oc p)[i]));rw[eT]at h1;have h2:=Wy p (oc p)[i];omega
 have bl:∀i,((C.take i).flatten).length<=1000*1000:=by
  intro i;have h1:=Ii 1000 (C.take i) λx hx=>cl x (List.mem_of_mem_take hx);have h2:(C.take i).length<=1000:=by rw[length_take];omega
  exact Nat.le_trans h1 (Nat.mul_le_mul_right _ h2)
 have main:=mY (step:=l7 n ((),oc p) (gP p)) (λ i=>((i:Nat),(C.take i).flatten)) C.length (Wx p) (λ i hi=>?_) ?_ n (by omega);simpa using main;have hi2:i+1<(oc p).length:=by omega
 have hw:i64.wrap (((oc p).length:Nat)-1)=(C.length:Nat):=by rw[aM (by omega) (by omega)];omega
 have bi:=bl i;have cr:=Wy p (oc p)[i];have e:C.take (i+1)=C.take i++[E9 (oc p)[i] (oc p)[i+1] (kV ot (AP p (oc p)[i]))]:=by rw[kL hi];congr 2;exact p2 i hi2 hi
 simp only[l7,hw,dV hi,aj,length_nil,aN,Fy hl hn (oc p) i (by omega),ai];rw[pO (by omega) (by omega)];simp;rw[Fz (oc p) i hi2 (by omega) (AP p (oc p)[i]) (kV ot (AP p (oc p)[i])) (by rw[eT]) (by rw[eT];omega) _ (by omega) hn];simp[e,aX i];have hw:i64.wrap (((oc p).length:Nat)-1)=((oc p).length:Nat)-1:=aM (by omega) (by omega);have d:decide ((C.length:Int)<((oc p).length:Nat)-1)=false:=by rw[dL];omega
 simp[l7,hw,d];rfl
theorem Nn p (hn:2000<=n):tL n p=some (xJ p):=by
 unfold tL xJ;rw[PN p hn];simp;cases hr:PI p with
 |false=>rfl
 |true=>
  have⟨_,hl⟩:=agk hr;simp[Fx (n:=n) (p:=p) (by omega) hn];rw[pO (by rw[length_map];omega) (by rw[length_map];omega)];simp[eT];rw[tY (by rw[eT,length_map];omega) (by rw[eT,length_map];omega)];simp[Al (n:=n) (p:=p) (by omega) (by omega)];have hE:jc (kV ot (p.map (·.x)))=oc p:=rfl;rw[hE,FB (by omega) hn];simp;by_cases q7:(Wx p).length>200;have:decide ((((Wx p).length:Nat):Int)>200)=true:=by simp;omega
  rw[this,aY q7];rfl;have:decide ((((Wx p).length:Nat):Int)>200)=false:=by simp;omega
  rw[this,aW q7];rfl
theorem adP p:(xJ p).1.length<=200:=by unfold xJ;split;split;simp;simp;omega;simp
def aor(a b:ax):Int:=bif(!d6 a || !d6 b)then -1 else max (max 0 (i64.wrap ((max a.x0 b.x0)-(min a.x1 b.x1)))) (i64.wrap ((max a.y0 b.y0)-(min a.y1 b.y1)))
theorem ak5(a b:ax):SD a b=some (aor a b):=by unfold SD aor;rw[jS,jS];simp only[ai];cases d6 a<;>cases d6 b<;>rfl
def ak6:iK:=iK.mk 0 0 [] []
def mq(land:List iK)(id:Int):iK×Bool:=match land.find? λt=>t.id==id with
 |some t=>(t,true)
 |none=>(ak6,false)
theorem Wz{α:Type}(p:α->Bool) l:(∃ (i:Nat) (h:i<l.length),oN p l=some i/\l.find? p=some l[i])\/(oN p l=none/\l.find? p=none):=by rcases D7 p l with ⟨i,hi,h1,h2,h3⟩|⟨h1,h2⟩;refine .inl ⟨i,hi,h1,?_⟩;rw[List.find?_eq_some_iff_getElem];exact⟨h2,i,hi,rfl,λj hj=>by simpa using h3 j hj⟩;refine .inr ⟨h1,?_⟩;rw[List.find?_eq_none];intro x hx;rw[h2 x hx];simp
def aos(t:cO)(name:ByteArray):Int:=match t.rows.find? λe=>ByteArray.toList e.name==ByteArray.toList name with
 |some e=>e.n
 |none=>t.sf
theorem WA{α:Type}(p:α->Bool) l:(∃ (i:Nat) (h:i<l.length),AA p l=i/\l.find? p=some l[i])\/(AA p l=-1/\l.find? p=none):=by rcases Wz p l with ⟨i,hi,h1,h2⟩|⟨h1,h2⟩;exact .inl ⟨i,hi,by simp[AA,h1],h2⟩;exact .inr ⟨by simp[AA,h1],h2⟩
def ak7:List ByteArray:=[⟨#[104,111,109,101]⟩,⟨#[115,104,111,112]⟩,⟨#[119,111,114,107]⟩,⟨#[112,97,114,107]⟩,⟨#[112,108,97,110,116]⟩,⟨#[104,97,108,108]⟩]
def nameOf(use:Int):Option ByteArray:=bz ak7 use
theorem adQ{V O:Type}{step:V->Option (V⊕O)}(R:Nat->V->Prop)(N:Nat)(Q:O->Prop)(h:∀i v,i<N->R i v->∃v',step v=some (.inl v')/\R (i+1) v')(hN:∀v,R N v->∃o,step v=some (.inr o)/\Q o):
 ∀n,N<n->∀v,R 0 v->∃o,iter step n v=some o/\Q o:=by
 have main:∀k i n v,i+k=N->k<n->R i v->∃o,iter step n v=some o/\Q o:=by
  intro k
  induction k with
  |zero=>
   intro i n v hi hn hR;obtain⟨m,rfl⟩:∃m,n=m+1:=⟨n-1,by omega⟩;have:i=N:=(by omega);subst this;have⟨o,h1,h2⟩:=hN v hR;exact⟨o,cu h1,h2⟩
  |succ k ih=>
   intro i n v hi hn hR;obtain⟨m,rfl⟩:∃m,n=m+1:=⟨n-1,by omega⟩;obtain⟨v',h1,h2⟩:=h i v (by omega) hR;obtain⟨o,h3,h4⟩:=ih (i+1) m v' (by omega) (by omega) h2;exact⟨o,by rw[dM h1,h3],h4⟩
 intro n hn v hR;exact main N 0 n v (by omega) hn hR
def AQ(z:fG):List ax:=if (xJ z.corners).2=0 then(xJ z.corners).1 else []
theorem agl(z:fG):(AQ z).length<=200:=by unfold AQ;split;exact adP _;simp
theorem R3(z:fG)(hn:2000<=n):xw n z=some (AQ z):=by
 unfold xw AQ;rw[Nn _ hn];simp;by_cases h:(xJ z.corners).2=0;have:((xJ z.corners).2 !=0)=false:=by simp[h]
 rw[this,aY h];rfl;have:((xJ z.corners).2 !=0)=true:=by simp[h]
 rw[this,aW h];rfl
def wU(a b:ax):ax:=⟨max a.x0 b.x0,max a.y0 b.y0,min a.x1 b.x1,min a.y1 b.y1⟩
theorem Np(a:ax):xY a=some (bif d6 a then(a,true)else(⟨0,0,0,0⟩,false)):=by unfold xY;rw[jS];simp[PG]
theorem uh(a b:ax):rX a b=some (bif d6 a&&(d6 b&&d6 (wU a b))then(wU a b,true)else(⟨0,0,0,0⟩,false)):=by unfold rX;rw[jS,jS];simp only[ai,PG];rw[show ax.mk (max a.x0 b.x0) (max a.y0 b.y0) (min a.x1 b.x1) (min a.y1 b.y1)=wU a b from rfl,Np];simp only[ai];generalize d6 (wU a b)=c;cases d6 a<;>cases d6 b<;>cases c<;>rfl
def N1(r:ax):Int:=i64.wrap (i64.wrap (r.x1-r.x0)*i64.wrap (r.y1-r.y0))
theorem xZ{r:ax}(h:d6 r=true):rH r=some (N1 r):=by unfold rH;rw[Np,h];rfl
def WB(x:ax)(n:Int)(y:ax):Int:=bif d6 x&&(d6 y&&d6 (wU x y))then i64.wrap (n+N1 (wU x y))else n
def EA(a b:List ax):Int:=a.foldl (λ n x=>b.foldl (WB x) n) 0
theorem amw{α β:Type} c (a:α) (u v:β):(bif c then(a,u)else(a,v)).1=a:=by cases c<;>rfl
theorem Ij b (x:ax) (hb:b.length<=1000) (hn:2000<=n) (m u v:Int):∃o,iter (qb n b x) n (m,0,u,v)=some o/\o.1=b.foldl (WB x) m:=by
 refine adQ (λ i (w:Int×Int×Int×Int)=>w.2.1=i/\w.1=(b.take i).foldl (WB x) m) b.length (λ (o:Int×Int×Int)=>o.1=b.foldl (WB x) m) (λ i w hi hR=>?_) (λ w hR=>?_) n (by omega) _ ⟨rfl,rfl⟩;obtain⟨w1,w2,w3,w4⟩:=w;obtain⟨h1,h2⟩:=hR;simp at h1 h2;subst h1;have e:(b.take (i+1)).foldl (WB x) m=WB x w1 b[i]:=by rw[kL hi,List.foldl_append,<- h2];rfl
 simp only[qb,dV hi,aj,bJ hi,ai,uh];have e0:WB x w1 b[i]=bif d6 x&&(d6 b[i]&&d6 (wU x b[i]))then i64.wrap (w1+N1 (wU x b[i]))else w1:=rfl;rw[e0]at e;cases hc:d6 x&&(d6 b[i]&&d6 (wU x b[i]))with
 |false=>
  rw[hc]at e;simp only[au,Bool.not_false,aj,ai];exact⟨_,rfl,aR (by omega),e.symm⟩
 |true=>
  rw[hc]at e;have hcc:d6 (wU x b[i])=true:=by revert hc;generalize d6 (wU x b[i])=c;cases c;cases d6 x<;>cases d6 b[i]<;>simp;simp
  simp only[aj,Bool.not_true,au,xZ hcc,ai,jm];rw[show ∀u v:Int,sub [u,v] 0 2=[u,v]from λ_ _=>rfl,Wn _ _ (by omega)];simp only[ai,PG];simp only[show ∀u v:Int,aE [u,v].length 2=true from λ_ _=>rfl,aj,ai];refine⟨_,rfl,aX i,?_⟩;rw[e];exact amw _ _ _ _
 obtain⟨w1,w2,w3,w4⟩:=w;obtain⟨h1,h2⟩:=hR;simp only at h1 h2;subst h1;simp only[qb,Wm,au];exact⟨_,rfl,by rw[h2,List.take_length]⟩
theorem PO(a b:List ax)(ha:a.length<=1000)(hb:b.length<=1000)(hn:2000<=n):∃q,vC n a b=some (EA a b,q):=by
 unfold vC;obtain⟨o,h1,h2⟩:=adQ (step:=qc n a b) (λ i (w:Int×Int×Int×Int)=>w.2.1=i/\w.1=(a.take i).foldl (λ n x=>b.foldl (WB x) n) 0) a.length (λ (o:Int×Int×Int)=>o.1=EA a b) (λ i w hi hR=>by obtain⟨w1,w2,w3,w4⟩:=w;obtain⟨h1,h2⟩:=hR;simp at h1 h2;subst h1;have⟨o,g1,g2⟩:=Ij (n:=n) b a[i] hb hn w1 w3 w4;obtain⟨o1,o2,o3⟩:=o;simp only[qc,dV hi,aj,bJ hi,ai,g1];refine⟨_,rfl,aR (by omega),?_⟩;simp at g2;rw[kL hi,List.foldl_append,<- h2,g2];rfl) (λ w hR=>by obtain⟨w1,w2,w3,w4⟩:=w;obtain⟨h1,h2⟩:=hR;simp only at h1 h2;subst h1;simp only[qc,Wm,au];exact⟨_,rfl,by rw[h2,List.take_length];rfl⟩) n (by omega) (0,0,1048576,0) ⟨rfl,rfl⟩;obtain⟨o1,o2,o3⟩:=o;simp at h2;subst h2;exact⟨_,by rw[h1];rfl⟩
def xK(zs:List fG)(area:List ax):List Int:=bif cH area then zs.map λz=>EA area (AQ z)else []
theorem PS(p:bT) a (hz:p.zones.length<=100) (ha:a.length<=900) (hn:2000<=n):vD n p a=some (xK p.zones a):=by
 unfold vD xK;rw[kK (by omega) (by omega) (by omega)];simp;cases cH a with
 |false=>rfl
 |true=>
  have:=gL (l:=p.zones) (step:=qd n p a) (λ i s=>(i,s)) (λ z s=>s++[EA a (AQ z)]) (λ s=>s) (λ i s=>s.length<=i)
   (λ i hi s hs=>?_) (λ s hs=>by simp[qd]) n (by omega) [] (aA _)
  rw[ll]at this;simp only[Bool.not_true,au,length_nil,aN,aj,this,ai,jq];congr 1;have gen:∀(ys:List fG) s,ys.foldl (λ s z=>s++[EA a (AQ z)]) s=s++ys.map λz=>EA a (AQ z):=by
   intro ys
   induction ys with
   |nil=>intro s;simp
   |cons y ys ih=>intro s;rw[foldl_cons,ih];simp
  exact gen p.zones [];have cl:=agl p.zones[i];obtain⟨q,hq⟩:=PO (n:=n) a (AQ p.zones[i]) (by omega) (by omega) hn;have ap:bP s.length s.length (sub ([EA a (AQ p.zones[i])]:List Int) 0 1).length 1 8=true:=eY (n:=1) (by omega) (by simp[maxLen];omega);simp only[qd,dV hi,aj,bJ hi,ai,R3 _ hn,jq,aN,hq,ap,gY];refine⟨?_,by simp;omega⟩;rw[aR (by omega)];rfl
theorem Rs zs a:(xK zs a).length<=zs.length:=by unfold xK;cases cH a<;>simp
def wV(zs:List fG)(l:List Int)(m:Nat):Int:=(List.range m).foldl (λ b i=>if (!((zs.getD i ⟨⟨#[]⟩,false,[]⟩).overlay)&&(decide (l.getD i 0>0)&&(decide (b<0) || decide (l.getD i 0>l.getD b.toNat 0))))=true then i else b) (-1)
def EB(zs:List fG)(l:List Int)(i:Nat):Bool:=decide (i=wV zs l l.length) || ((zs.getD i ⟨⟨#[]⟩,false,[]⟩).overlay&&decide (l.getD i 0>0))
def GE(zs:List fG)(area:List ax):List ByteArray:=((List.range (xK zs area).length).filter (EB zs (xK zs area))).map λi=>(zs.getD i ⟨⟨#[]⟩,false,[]⟩).name
theorem Rt zs l:∀m,wV zs l m=-1\/∃k:Nat,k<m/\wV zs l m=k
 | 0=>.inl rfl
 |m+1=>by have ih:=Rt zs l m;unfold wV;rw[List.range_succ,List.foldl_append];simp only[foldl_cons,List.foldl_nil];split;exact .inr ⟨m,by omega,rfl⟩;rcases ih with h|⟨k,h1,h2⟩;exact .inl h;exact .inr ⟨k,by omega,h2⟩
theorem Ik{α:Type}{l:List α}{i:Nat}(d:α)(h:i<l.length):l.getD i d=l[i]:=by simp[h]
theorem PU(p:bT) l (hl:l.length<=p.zones.length) (hz:p.zones.length<=100) (hn:2000<=n):iter (qf p l) n ((-1),0)=some (wV p.zones l l.length):=by
 have main:=mY (step:=qf p l) (λ i=>(wV p.zones l i,(i:Nat))) l.length (wV p.zones l l.length) (λ i hi=>?_) (by simp[qf]) n (by omega);exact main;have hz':i<p.zones.length:=by omega
 have e:wV p.zones l (i+1)=if (!(p.zones[i]).overlay&&(decide (l[i]>0)&&(decide (wV p.zones l i<0) || decide (l[i]>l.getD (wV p.zones l i).toNat 0))))=true then(i:Int)else wV p.zones l i:=by
  conv=>lhs;unfold wV
  rw[List.range_succ,List.foldl_append];simp only[foldl_cons,List.foldl_nil,Ik _ hz',Ik _ hi];rfl
 rw[e];rcases Rt p.zones l i with h|⟨k,h1,h2⟩;rw[h];have d:decide (-1<0)=true:=rfl;simp only[qf,dV hi,aj,aV hi,bG hi,ai,bJ hz',d,PG,Bool.true_or,Bool.and_true,aX i];cases (p.zones[i]).overlay<;>cases decide (l[i]>0)<;>rfl;rw[h2];have d:decide ((k:Nat)<0)=false:=by simp
 have hk:k<l.length:=by omega
 simp only[qf,dV hi,aj,aV hi,bG hi,ai,bJ hz',d,PG,Bool.false_or,au,aV hk,bG hk,Int.toNat_natCast,Ik _ hk,aX i];cases (p.zones[i]).overlay<;>cases decide (l[i]>0)<;>cases decide (l[i]>l[k])<;>rfl
theorem abu(p:bT) a (hz:p.zones.length<=100) (ha:a.length<=900) (hn:2000<=n):Cq n p a=some (GE p.zones a):=by
 unfold Cq;have sl:=Rs p.zones a;rw[PS p a hz ha hn];simp;rw[PU p _ sl hz hn];simp;unfold GE;generalize hL:xK p.zones a=l at*
 have:=gL (l:=List.range l.length) (step:=xA p l (wV p.zones l l.length)) (λ i s=>(i,s)) (λ i s=>bif EB p.zones l i then s++[(p.zones.getD i ⟨⟨#[]⟩,false,[]⟩).name]else s) (λ s=>s) (λ i s=>s.length<=i)
  (λ i hi s hs=>?_) (λ s hs=>by rw[List.length_range];simp[xA]) n (by rw[List.length_range];omega) [] (aA _)
 rw[ll]at this;simp[this];congr 1;have gen:∀(ys:List Nat) s,ys.foldl (λ s i=>bif EB p.zones l i then s++[(p.zones.getD i ⟨⟨#[]⟩,false,[]⟩).name]else s) s=s++(ys.filter (EB p.zones l)).map λi=>(p.zones.getD i ⟨⟨#[]⟩,false,[]⟩).name:=by
  intro ys
  induction ys with
  |nil=>intro s;simp
  |cons y ys ih=>
   intro s;rw[foldl_cons,ih,List.filter_cons];cases EB p.zones l y<;>simp
 exact gen (List.range l.length) [];rw[List.length_range]at hi;have hz':i<p.zones.length:=by omega
 rw[List.getElem_range];have ap:bP s.length s.length (sub ([(p.zones[i]).name]:List ByteArray) 0 1).length 1 16=true:=eY (n:=1) (by omega) (by simp[maxLen];omega);have hb:((i:Nat)==wV p.zones l l.length)=decide ((i:Nat)=wV p.zones l l.length):=by rw[kS];simp
 simp only[xA,dV hi,aj,aV hi,bG hi,ai,bJ hz',hb,PG,ap,gY,aN,EB,Ik _ hz',Ik _ hi,aX i];cases decide ((i:Nat)=wV p.zones l l.length)<;>cases (p.zones[i]).overlay<;>cases decide (l[i]>0)<;>refine⟨rfl,?_⟩<;>simp<;>omega
theorem amx zs a:(GE zs a).length<=zs.length:=by unfold GE;rw[length_map];have h1:=length_filter_le (EB zs (xK zs a)) (List.range (xK zs a).length);rw[List.length_range]at h1;have:=Rs zs a;omega
def fY(a b:ByteArray):Bool:=ByteArray.toList a==ByteArray.toList b
theorem uJ{l:List ByteArray}{a:ByteArray}(hl:l.length<1099511627776)(hn:l.length<n):gm n l a=some (l.any (fY a)):=by
 unfold gm;have e:q9 n l a=aa6 n (λ x=>ByteArray.toList a==ByteArray.toList x) l:=by kernel_rfl
 rw[e,Rh hl hn,ai,wZ];rfl
theorem qo{l:List ByteArray}{φ:(ByteArray×Unit)->Option Bool}(p:ByteArray->Bool)(h:∀x∈l,φ (x,())=some (p x))(hl:l.length<1099511627776)(hn:l.length<n):gI n l φ=some (l.any p):=by
 unfold gI;have e:qy n l φ=vS n l φ:=by kernel_rfl
 rw[e,iY p h hl hn,ai,wZ]
def TS(r:cK)(zs:List ByteArray):Bool:=(decide (r.zones=[]) || r.zones.any λz=>zs.any (fY z))&&!(r.except.any λz=>zs.any (fY z))
theorem PV(r:cK) zs (h1:r.zones.length<=100) (h2:r.except.length<=100) (h3:zs.length<=100) (hn:2000<=n):qK n r zs=some (TS r zs):=by
 have hf:∀x:ByteArray,kP n x zs=some (zs.any (fY x)):=λx=>by unfold kP;rw[uJ (by omega) (by omega)];rfl
 unfold qK TS;rw[qo (λ z=>zs.any (fY z)) (λ x _=>hf x) (by omega) (by omega),qo (λ z=>zs.any (fY z)) (λ x _=>hf x) (by omega) (by omega)];simp;have e:((r.zones.length:Int)==0)=decide (r.zones=[]):=by rw[kS,beq_iff_eq,bF];constructor;intro h;exact List.length_eq_zero_iff.1 (by omega);intro h;rw[h];rfl
 rw[e];cases decide (r.zones=[])<;>cases (r.zones.any λz=>zs.any (fY z))<;>cases (r.except.any λz=>zs.any (fY z))<;>rfl
def qU(zs:List ByteArray)(day:Int)(r:cK):Bool:=decide (r.from_<=day)&&((r.ka==0 || decide (day<r.ka))&&TS r zs)
def PW(rules:List cK)(zs:List ByteArray)(day:Int):List Nat:=(List.range rules.length).filter λi=>(rules[i]?).any (qU zs day)
abbrev WC(r:cK):Prop:=r.zones.length<=100/\r.except.length<=100
theorem R4(p:bT) zs day (hr:∀r∈p.rules,WC r) (hl:p.rules.length<=100) (h3:zs.length<=100) (hn:2000<=n):tN n p zs day=some ((PW p.rules zs day).map λ(i:Nat)=>(i:Int)):=by
 unfold tN PW
 have:=gL (l:=List.range p.rules.length) (step:=rf n p zs day) (λ i s=>(i,s)) (λ i s=>bif(p.rules[i]?).any (qU zs day)then s++[(i:Int)]else s) (λ s=>s) (λ i s=>s.length<=i)
  (λ i hi s hs=>?_) (λ s hs=>by rw[List.length_range];simp[rf]) n (by rw[List.length_range];omega) [] (aA _)
 rw[ll]at this;simp[this];congr 1;have gen:∀(ys:List Nat) s,ys.foldl (λ s (i:Nat)=>bif(p.rules[i]?).any (qU zs day)then s++[(i:Int)]else s) s=s++(ys.filter λi=>(p.rules[i]?).any (qU zs day)).map λ(i:Nat)=>(i:Int):=by
  intro ys
  induction ys with
  |nil=>intro s;simp
  |cons y ys ih=>
   intro s;rw[foldl_cons,ih,List.filter_cons];cases (p.rules[y]?).any (qU zs day)<;>simp
 exact gen (List.range p.rules.length) [];rw[List.length_range]at hi;rw[List.getElem_range];obtain⟨o1,o2⟩:=hr _ (getElem_mem hi);have ap:bP s.length s.length (sub ([(i:Nat)]:List Int) 0 1).length 1 8=true:=eY (n:=1) (by omega) (by simp[maxLen];omega);have eg:(p.rules[i]?).any (qU zs day)=qU zs day p.rules[i]:=by rw[dm hi];rfl
 rw[eg];simp only[rf,dV hi,aj,bJ hi,ai,PV _ zs o1 o2 h3 hn,PG,ap,gY,aN,qU,aX i];cases decide ((p.rules[i]).from_<=day)<;>cases (p.rules[i]).ka==0<;>cases decide (day<(p.rules[i]).ka)<;>cases TS p.rules[i] zs<;>refine⟨rfl,?_⟩<;>simp<;>omega
def WE(p:d9):Bool:=decide (0<=p.side/\p.side<=3)&&(decide (0<=p.base/\p.base<=4096)&&(decide (0<=p.num/\p.num<=4096)&&decide (1<=p.den/\p.den<=4096)))
theorem ak8(p:d9):WE p=true↔(0<=p.side/\p.side<=3)/\(0<=p.base/\p.base<=4096)/\(0<=p.num/\p.num<=4096)/\(1<=p.den/\p.den<=4096):=by simp[WE]
theorem R5(a b c:Int):nT a b c=some (decide (b<=a/\a<=c)):=by
 unfold nT;by_cases h1:b<=a;have d:decide (b<=a)=true:=by simpa using h1
 rw[d,aj];congr 1;rw[kS];simp[h1];have d:decide (b<=a)=false:=by simpa using h1
 rw[d,au];congr 1;rw[kS];simp[h1]
theorem WG(p:d9):Ae p=some (WE p):=by unfold Ae WE;simp only[R5,ai,PG];generalize decide (0<=p.side/\p.side<=3)=a;generalize decide (0<=p.base/\p.base<=4096)=b;generalize decide (0<=p.num/\p.num<=4096)=c;cases a<;>cases b<;>cases c<;>rfl
theorem AR{l:List d9}{φ:(d9×Unit)->Option Bool}(p:d9->Bool)(h:∀x∈l,φ (x,())=some (p x))(hl:l.length<1099511627776)(hn:l.length<n):lF n l φ=some (l.any p):=by
 unfold lF;have e:rM n l φ=vS n l φ:=by kernel_rfl
 rw[e,iY p h hl hn,ai,wZ]
def EC(b:ax)(l:List d9):Bool:=d6 b&&!(l.any λp=>!WE p)
theorem WH(b:ax) l (hl:l.length<=1000) (hn:2000<=n):Af n b l=some (EC b l):=by unfold Af EC;rw[jS,AR (λ p=>!WE p) (λ p _=>by show tO p=_;unfold tO;rw[WG];rfl) (by omega) (by omega)];simp only[ai,PG];cases d6 b<;>rfl
theorem agm{a n:Int}(hn:0<n):(if Int.tmod a n<0 then Int.tdiv a n-1 else Int.tdiv a n)=a/n:=by
 have h1:=Int.mul_ediv_add_emod a n;have h2:=Int.emod_nonneg a (by omega:n≠0);have h3:=Int.emod_lt_of_pos a hn;rcases Int.le_total 0 a with h|h;have e1:Int.tmod a n=a%n:=Int.tmod_eq_emod_of_nonneg h;have e2:Int.tdiv a n=a/n:=Int.tdiv_eq_ediv_of_nonneg h;rw[e1,e2,aW (by omega)];obtain⟨b,rfl⟩:∃b,a=-b:=⟨-a,by omega⟩;have hb:0<=b:=by omega
 have e1:Int.tmod (-b) n=-(b%n):=by rw[Int.neg_tmod,Int.tmod_eq_emod_of_nonneg hb]
 have e2:Int.tdiv (-b) n=-(b/n):=by rw[Int.neg_tdiv,Int.tdiv_eq_ediv_of_nonneg hb]
 have g1:=Int.mul_ediv_add_emod b n;have g2:=Int.emod_nonneg b (by omega:n≠0);have g3:=Int.emod_lt_of_pos b hn;rw[e1,e2];by_cases hm:b%n=0;rw[aW (by omega)];have:(-b)/n=-(b/n):=by refine(Int.ediv_eq_iff_of_pos hn).2 ?_;constructor;rw[Int.neg_mul,Int.mul_comm (b/n)];omega;rw[Int.neg_mul,Int.mul_comm (b/n)];omega
 omega;rw[aY (by omega)];have:(-b)/n=-(b/n)-1:=by refine(Int.ediv_eq_iff_of_pos hn).2 ?_;constructor;rw[Int.sub_mul,Int.neg_mul,Int.mul_comm (b/n)];omega;rw[Int.sub_mul,Int.neg_mul,Int.mul_comm (b/n)];omega
 omega
theorem Nq{a n:Int}(hn:0<n)(ha: -4611686018427387904<=a/\a<=4611686018427387904):tQ a n=some (a/n):=by
 have nz:(n !=0)=true:=by simp;omega
 have hb: -4611686018427387904<=a/n/\a/n<=4611686018427387904:=by
  constructor;rw[Int.le_ediv_iff_mul_le hn];have: -4611686018427387904*n<=-4611686018427387904:=by omega
  omega;rcases Int.le_total 0 a with h|h;have:=Int.ediv_le_self n h;omega;have:a/n<=0:=by have:=(Int.ediv_lt_iff_lt_mul (a:=a) (b:=1) hn).2 (by omega);omega
  omega
 have hf:=agm (a:=a) hn;have ht: -4611686018427387904<=Int.tdiv a n/\Int.tdiv a n<=4611686018427387905:=by split at hf<;>omega
 unfold tQ;simp[nz];rw[aM (x:=Int.tdiv a n),aM (x:=Int.tdiv a n-1),<- hf];by_cases h:Int.tmod a n<0;have d:decide (Int.tmod a n<0)=true:=by simpa using h
 rw[d,aY h];rfl;have d:decide (Int.tmod a n<0)=false:=by simpa using h
 rw[d,aW h];rfl
def WI(b:ax)(side x y:Int):Int:=if side=0 then x-b.x0 else if side=1 then b.x1-1-x else if side=2 then y-b.y0 else b.y1-1-y
def aot(b:ax)(p:d9)(x y:Int):Int:=p.base+p.num*WI b p.side x y/p.den
def Yp(b:ax)(l:List d9)(x y:Int):Int:=l.foldl (λ h p=>min h (aot b p x y)) 4096
abbrev InG(x y:Int):Prop:=(0<=x/\x<1048576)/\(0<=y/\y<1048576)
theorem adS{b:ax}(hb:d6 b=true){x y:Int}(h:InG x y) side: -1048576<=WI b side x y/\WI b side x y<=1048576:=by simp at hb;obtain⟨h1,h2⟩:=h;unfold WI;split;omega;split;omega;split<;>omega
theorem ai7{a d:Int}(ha:0<=a/\a<=4096)(hd: -1048576<=d/\d<=1048576): -4294967296<=a*d/\a*d<=4294967296:=by have h1:a*d<=a*1048576:=Int.mul_le_mul_of_nonneg_left hd.2 ha.1;have h2:a*(-1048576)<=a*d:=Int.mul_le_mul_of_nonneg_left hd.1 ha.1;omega
theorem ai8{a n:Int}(hn:0<n)(ha: -4294967296<=a/\a<=4294967296): -4294967296<=a/n/\a/n<=4294967296:=by constructor;rw[Int.le_ediv_iff_mul_le hn];omega;rcases Int.le_total 0 a with h|h;have:=Int.ediv_le_self n h;omega;have:=(Int.ediv_lt_iff_lt_mul (a:=a) (b:=1) hn).2 (by omega);omega
theorem abv{b:ax}{l:List d9}{x y:Int}(hb:d6 b=true)(hp:∀p∈l,WE p=true)(h:InG x y)(hl:l.length<=1000)(hn:2000<=n):Jq n b l x y=some (Yp b l x y):=by
 unfold Jq wH;have hr:=hb;simp at hr;obtain⟨h1,h2⟩:=h;rw[aM (x:=x-b.x0),aM (x:=b.x1-1),aM (x:=b.x1-1-x),aM (x:=y-b.y0),aM (x:=b.y1-1),aM (x:=b.y1-1-y)];simp;have:=lM (l:=l) (step:=xD b l x y ⟨x-b.x0,b.x1-1-x,y-b.y0,b.y1-1-y⟩) (λ i s=>(s,(i:Nat))) (λ p s=>min s (aot b p x y)) (λ s=>s) (λ i hi s=>?_) (λ s=>by simp[xD]) n (by omega) 4096;rw[ll]at this;rw[this];rfl;obtain⟨s1,s2,s3,s4⟩:=(ak8 _).1 (hp _ (getElem_mem hi));have ib:ct (l[i]).side 4=true:=by simp[ct];omega
 have g:bz ([x-b.x0,b.x1-1-x,y-b.y0,b.y1-1-y]:List Int) (l[i]).side=some (WI b (l[i]).side x y):=by
  have hs:(l[i]).side=0\/(l[i]).side=1\/(l[i]).side=2\/(l[i]).side=3:=by omega
  rcases hs with e|e|e|e<;>rw[e]<;>simp[bz,WI]
 have db:=adS hb ⟨h1,h2⟩ (l[i]).side;have mb:=ai7 s3 db;have dv:=ai8 (n:=(l[i]).den) (by omega) mb;simp only[xD,dV hi,aj,bJ hi,ai,ib,g];rw[aM (x:=(l[i]).num*WI b (l[i]).side x y),Nq (by omega) (by omega)];simp only[ai];rw[aM (x:=(l[i]).base+_),aR (by omega)];rfl
theorem adT(b:ax) l:EC b l=true↔d6 b=true/\∀p∈l,WE p=true:=by unfold EC;rw[bC,Bool.not_eq_true',List.any_eq_false];simp
def Hp(x:gU):Bool:=decide (x.z0<0) || (decide (x.z0>=x.z1) || (decide (x.z1>4096) || (decide (x.area=[]) || !cH x.area)))
def AI(p:Option gU×gU):Bool:=Hp p.2 || p.1.any λq=>decide (q.z1>p.2.z0) || (q.z1==p.2.z0&&decide (q.area=p.2.area))
def AU(s:List gU):List (Option gU×gU):=(none::s.map some).zip s
def ED(s:List gU):Bool:=decide (s.length<=80)&&!((AU s).any AI)
theorem pQ s:(AU s).length=s.length:=by simp[AU]
theorem EF{s:List gU}{i:Nat}(h:i<(AU s).length):(AU s)[i]=(if h0:i=0 then none else some (s[i-1]'(by rw[pQ]at h;omega)),s[i]'(by rw[pQ]at h;exact h)):=by
 simp[AU];cases i with
 |zero|succ i=>simp
theorem Ru{s:List gU}(ha:∀x∈s,x.area.length<=900)(hn:1000<=n):Hz n s=some (ED s):=by
 unfold Hz ED;by_cases h80:s.length<=80;have d:decide ((s.length:Int)>80)=false:=by simp;omega
 have d2:decide (s.length<=80)=true:=by simpa using h80
 have z:∀l:List ax,(((l.length:Int))==0)=decide (l=[]):=λl=>by cases l<;>simp<;>omega
 have:=rU (l:=AU s) (step:=Ag n s) (λ i=>(i:Nat)) AI () (λ _=>false) (λ i hi=>?_) ?_ n (by rw[pQ];omega);rw[ll]at this;rw[d,d2,this,<- PL];cases oN AI (AU s)<;>rfl;rw[EF];rw[pQ]at hi;have hi':decide ((i:Int)<s.length)=true:=by simpa using hi
 have h1:=ha _ (getElem_mem hi);simp only[Ag,hi',aj,bJ hi,ai,z,kK (n:=n) (l:=s[i].area) (by omega) (by omega) hn,AI];rw[aR (by omega)];have b:((bif decide (s[i].z0<0)then some true else bif decide (s[i].z0>=s[i].z1)then some true else bif decide (s[i].z1>4096)then some true else bif decide (s[i].area=[])then some true else some (!cH s[i].area)):Option Bool)=some (Hp s[i]):=by unfold Hp;cases decide (s[i].z0<0)<;>cases decide (s[i].z0>=s[i].z1)<;>cases decide (s[i].z1>4096)<;>cases decide (s[i].area=[])<;>rfl
 rw[b];simp;cases Hp s[i]with
 |true=>simp
 |false=>
  by_cases h0:i=0;subst h0;have:(((0:Nat))==0)=true:=rfl;simp;have e0:((i:Int)==0)=false:=by simp;omega
  have w:i64.wrap (i-1)=(i-1:Nat):=nu (by omega) (by omega);have h2:=ha _ (getElem_mem (show i-1<s.length by omega));simp[e0,w,bJ (show i-1<s.length by omega),agi (n:=n) (a:=s[i-1].area) (b:=s[i].area) (by omega) (by omega),h0];cases decide (s[i-1].z1>s[i].z0)with
  |true=>simp
  |false=>
   cases s[i-1].z1==s[i].z0 with
   |false=>simp
   |true=>cases decide (s[i-1].area=s[i].area)<;>simp
 rw[pQ];simp[Ag];have d:decide ((s.length:Int)>80)=true:=by simp;omega
 have d2:decide (s.length<=80)=false:=by simpa using h80
 rw[d,d2];rfl
structure ak9(x:gU):Prop where
 lo:0<=x.z0
 lt:x.z0<x.z1
 hi:x.z1<=4096
 ne:x.area≠[]
 rt:cH x.area=true
def aou(s:List gU):Prop:=∀i (h:i+1<s.length),s[i].z1<=s[i+1].z0/\¬(s[i].z1=s[i+1].z0/\s[i].area=s[i+1].area)
theorem adV(x:gU):Hp x=false↔ak9 x:=by unfold Hp;simp;constructor;rintro⟨h1,h2,h3,h4,h5⟩;exact⟨by omega,by omega,by omega,h4,h5⟩;rintro⟨h1,h2,h3,h4,h5⟩;exact⟨by omega,by omega,by omega,h4,h5⟩
theorem WJ s:ED s=true↔s.length<=80/\(∀ x∈s,ak9 x)/\aou s:=by
 unfold ED;rw[bC,bF,Bool.not_eq_true',List.any_eq_false];refine and_congr_right λ_=>?_;constructor;intro h;have key:∀i (hi:i<s.length),AI ((AU s)[i]'(by rw[pQ];exact hi))=false:=λi hi=>by have:=h _ (getElem_mem (show i<(AU s).length by rw[pQ];exact hi));simpa using this
 refine⟨λ x hx=>?_,λi hi=>?_⟩;obtain⟨i,hi,rfl⟩:=mem_iff_getElem.1 hx;have:=key i hi;rw[EF]at this;unfold AI at this;rw[Bool.or_eq_false_iff]at this;exact(adV _).1 this.1;have:=key (i+1) hi;rw[EF]at this;unfold AI at this;rw[Bool.or_eq_false_iff]at this;have h2:=this.2;simp only[Nat.succ_ne_zero,dif_neg,not_false_eq_true,Option.any_some,Nat.add_sub_cancel,Bool.or_eq_false_iff,dL,Bool.and_eq_false_iff,beq_eq_false_iff_ne]at h2;refine⟨by omega,λ⟨e1,e2⟩=>?_⟩;rcases h2.2 with h3|h3;exact h3 e1;exact h3 e2;rintro⟨h1,h2⟩ p hp;obtain⟨i,hi,rfl⟩:=mem_iff_getElem.1 hp;rw[EF];rw[pQ]at hi;unfold AI;have hb:=(adV _).2 (h1 _ (getElem_mem hi));by_cases h0:i=0;simp[h0]at hb ⊢;exact hb;obtain⟨j,rfl⟩:∃j,i=j+1:=⟨i-1,by omega⟩;have⟨n1,n2⟩:=h2 j hi;simp only[Nat.succ_ne_zero,dif_neg,not_false_eq_true,Option.any_some,Nat.add_sub_cancel];rw[hb];simp only[Bool.false_or,Bool.or_eq_true,bF,bC,beq_iff_eq];rintro (h|h);omega;exact n2 h
theorem sF{l:List gU}{φ:(gU×Unit)->Option Bool}(p:gU->Bool)(h:∀x∈l,φ (x,())=some (p x))(hl:l.length<1099511627776)(hn:l.length<n):jC n l φ=some (l.any p):=by
 unfold jC tT;have:=rU (l:=l) (step:=mh l φ) (λ i=>(i:Nat)) p () (λ i=>(i:Nat)) (λ i hi=>?_) (by simp[mh]) n hn;rw[ll]at this;rw[this,<- PL];cases oN p l with
 |none=>rfl
 |some i=>simp<;>omega
 have hi':decide ((i:Int)<l.length)=true:=by simpa using hi
 simp only[mh,hi',aj,bJ hi,ai,h _ (getElem_mem hi)];rw[aR (by omega)];cases p l[i]<;>rfl
def PQ(s:List gU)(lot:Int)(e:jH):Bool:=e.lot==lot&&(cH e.area&&s.any λc=>decide (c.z1>e.top)&&N2 c.area e.area)
def N0(l:List jH)(lot:Int)(s:List gU):Bool:=ED s&&!(l.any (PQ s lot))
theorem Yq{l:List jH}{lot:Int}{s:List gU}(hl:l.length<=900)(he:∀e∈l,e.area.length<=900)(ha:∀x∈s,x.area.length<=900)(hn:1000<=n):Ep n l lot s=some (N0 l lot s):=by
 unfold Ep N0;rw[Ru ha hn];simp;cases hr:ED s with
 |false=>rfl
 |true=>
 have l80:=((WJ s).1 hr).1;have:=rU (l:=l) (step:=vF n l lot s) (λ i=>(i:Nat)) (PQ s lot) () (λ _=>false) (λ i hi=>?_) (by simp[vF]) n (by omega);rw[ll]at this;simp;rw[this,<- PL];cases oN (PQ s lot) l<;>rfl;have hi':decide ((i:Int)<l.length)=true:=by simpa using hi
 have h1:=he _ (getElem_mem hi);have cf:=sF (n:=n) (l:=s) (φ:=λy:gU×Unit=>qN n y.1 l[i]) (λ c=>decide (c.z1>l[i].top)&&N2 c.area l[i].area) (λ c hc=>by have:=ha c hc;show qN n c l[i]=_;unfold qN;rw[agh (by omega) (by omega) (by omega) (by omega)];cases decide (c.z1>l[i].top)<;>rfl) (by omega) (by omega);simp only[vF,hi',aj,bJ hi,ai,kK (n:=n) (l:=l[i].area) (by omega) (by omega) hn,cf];rw[aR (by omega)];unfold PQ;cases h2:l[i].lot==lot with
 |false=>
  have:(l[i].lot !=lot)=true:=by simp[bne,h2]
  simp[this]
 |true=>
  have:(l[i].lot !=lot)=false:=by simp[bne,h2]
  simp[this];cases cH l[i].area with
  |false=>simp
  |true=>cases s.any λc=>decide (c.z1>l[i].top)&&N2 c.area l[i].area<;>simp
theorem adX(r:ax):d6 r=true↔(0<=r.x0/\r.x0<r.x1/\r.x1<=1048576)/\(0<=r.y0/\r.y0<r.y1/\r.y1<=1048576):=by simp;omega
theorem JE{b:ax}{l:List d9}(r:ax) x (hb:d6 b=true) (hp:∀p∈l,WE p=true) (hr:d6 r=true) (hx:0<=x/\x<1048576) (hl:l.length<=1000) (hn:2000<=n) v:
 iter (og n b l r x) n (v,0)=some (min (min v (Yp b l x r.y0)) (Yp b l x (r.y1-1))):=by
 have ho:=(adX r).1 hr;have w:i64.wrap (r.y1-1)=r.y1-1:=aM (by omega) (by omega);have:=lM (l:=[r.y0,r.y1-1]) (step:=og n b l r x) (λ i s=>(s,(i:Nat))) (λ y m=>min m (Yp b l x y)) (λ s=>s) (λ i hi s=>?_) (λ s=>by simp[og]) n (by simp;omega) v;rw[ll]at this;exact this;have h2:i<2:=by simpa using hi
 have yb:0<=([r.y0,r.y1-1]:List Int)[i]/\([r.y0,r.y1-1]:List Int)[i] <1048576:=by rcases i with _|_|i;simp;omega;simp;omega;omega
 simp only[og,dV h2,aj,aV h2,w,bG hi,ai,abv hb hp ⟨hx,yb⟩ hl hn,aX i]
def anP(b:ax)(l:List d9)(v:Int)(r:ax):Int:=min (min (min (min v (Yp b l r.x0 r.y0)) (Yp b l r.x0 (r.y1-1))) (Yp b l (r.x1-1) r.y0)) (Yp b l (r.x1-1) (r.y1-1))
theorem JF{b:ax}{l:List d9}(r:ax)(hb:d6 b=true)(hp:∀p∈l,WE p=true)(hr:d6 r=true)(hl:l.length<=1000)(hn:2000<=n) v:
 iter (oh n b l r) n (v,0)=some (anP b l v r):=by
 have ho:=(adX r).1 hr;have w:i64.wrap (r.x1-1)=r.x1-1:=aM (by omega) (by omega);have:=lM (l:=[r.x0,r.x1-1]) (step:=oh n b l r) (λ i s=>(s,(i:Nat))) (λ x m=>min (min m (Yp b l x r.y0)) (Yp b l x (r.y1-1))) (λ s=>s) (λ i hi s=>?_) (λ s=>by simp[oh]) n (by simp;omega) v;rw[ll]at this;exact this;have h2:i<2:=by simpa using hi
 have xb:0<=([r.x0,r.x1-1]:List Int)[i]/\([r.x0,r.x1-1]:List Int)[i] <1048576:=by rcases i with _|_|i;simp;omega;simp;omega;omega
 simp only[oh,dV h2,aj,aV h2,w,bG hi,ai,JE r _ hb hp hr xb hl hn,aX i]
def PP(b:ax)(l:List d9)(a:List ax):Int:=a.foldl (anP b l) 4096
theorem R6{b:ax}{l:List d9}{a:List ax}(hb:d6 b=true)(hp:∀p∈l,WE p=true)(ha:∀r∈a,d6 r=true)(hal:a.length<=1000)(hl:l.length<=1000)(hn:2000<=n):xE n b l a=some (PP b l a):=by unfold xE;have:=lM (l:=a) (step:=ru n b l a) (λ i s=>(s,(i:Nat))) (λ r m=>anP b l m r) (λ s=>s) (λ i hi s=>?_) (λ s=>by simp[ru]) n (by omega) 4096;rw[ll]at this;rw[this];rfl;simp only[ru,dV hi,aj,bJ hi,ai,JF a[i] hb hp (ha _ (getElem_mem hi)) hl hn,aX i]
theorem amA(r:ax):d6 r=true↔(0<=r.x0/\r.x0<r.x1/\r.x1<=1048576)/\(0<=r.y0/\r.y0<r.y1/\r.y1<=1048576):=by simp;omega
abbrev E0(t:iK):Prop:=t.area.length<=900/\t.from_.length*8<=140737488355328
theorem agp{t:iK}(h:E0 t):MK t=some t:=by unfold MK;have h2:=h.2;rw[Px (by omega),ai,show sZ t.from_=some t.from_ from zU (b:=8) (by omega) (by simp[maxLen];omega),ai];simp
theorem aja{land:List iK}{id:Int}(h:∀t∈land,E0 t)(hl:land.length<1099511627776)(hn:land.length<n):ML n land id=some (mq land id):=by
 unfold ML;have:=rU (l:=land) (step:=Ed land id) (λ i=>i) (λ t=>t.id==id) () (λ i=>(land.getD i ak6,true)) (λ i hi=>?_) ?_ n hn;rw[ll]at this;rw[this];unfold mq;rcases Wz (λ t:iK=>t.id==id) land with ⟨i,hi,h1,h2⟩|⟨h1,h2⟩;rw[h1,h2];simp[hi];rw[h1,h2];rfl;simp only[Ed,dV hi,aj,bJ hi,ai,agp (h _ (getElem_mem hi))];cases land[i].id==id with
 |true=>simp[hi]
 |false=>simp only[au];rw[aR (by omega)]
 simp[Ed]
theorem Z0{land:List iK}(h:∀t∈land,E0 t) id:E0 (mq land id).1:=by unfold mq;split;rename_i t ht;exact h t (List.mem_of_find?_eq_some ht);simp[E0,ak6]
structure aoM(t:fP):Prop where
 rules:t.bm.length<=20
 T4:∀r∈t.bm,WC r
 zones:t.ca.length<=20
 land:t.land.length<=20
 lots:∀l∈t.land,E0 l
 cw:t.cw.length<=5
 ao6:∀e∈t.cw,e.area.length<=10
theorem Rv{α:Type}(p:α->Bool):∀l:List α,((List.range l.length).filter λi=>(l[i]?).any p).filterMap (λ i=>l[i]?)=l.filter p
 |[]=>rfl
 |a::l=>by
  have ih:=Rv p l;rw[fU,List.range_succ_eq_map,List.filter_cons,List.filter_cons];have e:(List.filter (λ i=>((a::l)[i]?).any p) (List.map Nat.succ (List.range l.length))).filterMap (λ i=>(a::l)[i]?)=l.filter p:=by rw[List.filter_map,List.filterMap_map];exact ih
  cases hp:p a with
  |true|false=>simp[hp];simpa using e
def Z4(a r:ax):ax:=⟨min a.x0 r.x0,min a.y0 r.y0,max a.x1 r.x1,max a.y1 r.y1⟩
def ahW:List ax->ax
 |[]=>⟨0,0,0,0⟩
 |r::l=>l.foldl Z4 r
def TU(a:List ax):ax×Bool:=bif decide (a≠[])&&cH a then(ahW a,true)else(⟨0,0,0,0⟩,false)
theorem adY{a:List ax}(ha:a≠[])(hv:∀r∈a,d6 r=true)(hl:a.length<=900)(hn:2000<=n):M0 n a=some (ahW a,true):=by
 unfold M0;have:=lM (l:=a.zip (List.range a.length)) (step:=Ad a) (λ i (s:Bool×Int×Int×Int×Int)=>(s.1,(i:Nat),s.2)) (λ p s=>bif !s.1 then(true,p.1.x0,p.1.y0,p.1.x1,p.1.y1)else(s.1,min s.2.1 p.1.x0,min s.2.2.1 p.1.y0,max s.2.2.2.1 p.1.x1,max s.2.2.2.2 p.1.y1)) (λ s=>s) (λ i hi s=>?_) (λ s=>?_) n (by simp;omega) (false,0,0,0,0);rw[ll]at this;simp only at this;rw[this];cases a with
 |nil=>exact absurd rfl ha
 |cons r l=>
  have gen:∀(l:List ax)(k:List Nat)(s:ax),l.length<=k.length->(l.zip k).foldl (λ (s:Bool×Int×Int×Int×Int) p=>bif !s.1 then(true,p.1.x0,p.1.y0,p.1.x1,p.1.y1)else(s.1,min s.2.1 p.1.x0,min s.2.2.1 p.1.y0,max s.2.2.2.1 p.1.x1,max s.2.2.2.2 p.1.y1)) (true,s.x0,s.y0,s.x1,s.y1)=(true,(l.foldl Z4 s).x0,(l.foldl Z4 s).y0,(l.foldl Z4 s).x1,(l.foldl Z4 s).y1):=by
   intro l
   induction l with
   |nil=>intro k s _;rfl
   |cons r l ih=>
    intro k s hk;cases k with
    |nil=>simp at hk
    |cons j k=>
     rw[List.zip_cons_cons,foldl_cons,foldl_cons];exact ih k (Z4 s r) (by simpa using hk)
  rw[fU,List.range_succ_eq_map,List.zip_cons_cons,foldl_cons];simp only[Bool.not_false,aj];rw[gen l _ r (by simp)];rfl
 have hi':i<a.length:=by simpa using hi
 obtain⟨s1,s2,s3,s4,s5⟩:=s;have ok:=hv _ (getElem_mem hi');simp only[Ad,dV hi',aj,bJ hi',ai,jS,ok,Bool.not_true,au,PG,List.getElem_zip,aX i];obtain⟨s1,s2,s3,s4,s5⟩:=s;have:(a.zip (List.range a.length)).length=a.length:=by simp
 simp[Ad]
theorem abw a (hl:a.length<=900) (hn:2000<=n):Jp n a=some (TU a):=by
 unfold Jp TU;cases a with
 |nil=>rfl
 |cons r l=>
  have e:((((r::l).length:Nat):Int)==0)=false:=by simp;omega
  have e2:decide (r::l≠[])=true:=by simp
  rw[kK (by omega) (by omega) (by omega),e,e2];simp;cases hr:cH (r::l)with
  |false=>rfl
  |true=>
   simp;rw[adY (by simp) (uf hr).1 hl hn];rfl
theorem Ju{V O:Type}{step:V->Option (V⊕O)}(f:Nat->V){s:V}(N:Nat)(o:O)(h0:s=f 0)
 (h1:∀i,i<N->step (f i)=some (.inl (f (i+1)))) (h2:step (f N)=some (.inr o)) (n:Nat) (hn:N<n):iter step n s=some o:=by rw[h0];exact mY f N o h1 h2 n hn
def tb(f:Nat->Nat->Bool):List Bool:=(List.range 144).map λi=>f (i/12) (i%12)
def upd(f:Nat->Nat->Bool)(a b:Nat)(v:Bool):Nat->Nat->Bool:=λx y=>if x=a/\y=b then v else f x y
def aov(p:Nat->Bool):Bool:=(List.range 12).any p
def OS(w:Nat->Nat->Bool):Nat->Nat->Bool:=λa c=>w a c || aov λb=>w a b&&w b c
inductive Tc(e:Nat->Nat->Bool):Nat->Nat->Prop
 |one {a b:Nat}:a<12->b<12->e a b=true->Tc e a b
 |trans {a b c:Nat}:Tc e a b->Tc e b c->Tc e a c
theorem Tc.lt{e:Nat->Nat->Bool}{a b:Nat}(h:Tc e a b):a<12/\b<12:=by
 induction h with
 |one h1 h2 _=>exact⟨h1,h2⟩
 |trans _ _ i1 i2=>exact⟨i1.1,i2.2⟩
def bU(v:ay):ax:=ax.mk v.bj v.bp v.be v.bo
def okV(v:ay):Bool:=d6 (bU v)&&(decide (0<=v.b9)&&(decide (v.b9<v.ch)&&(decide (v.ch<=4096)&&((decide (v.use=0) || decide (v.units=0))&&(decide (0<=v.use)&&(decide (v.use<6)&&(decide (0<=v.units)&&decide (v.units<=1048576))))))))
theorem lq(v:ay):fK v=some (okV v):=by
 unfold fK okV;rw[jS];have e1:decide (v.b9<0)=!decide (0<=v.b9):=by rw[<- decide_not,decide_eq_decide];omega
 have e2:decide (v.b9>=v.ch)=!decide (v.b9<v.ch):=by rw[<- decide_not,decide_eq_decide];omega
 have e3:decide (v.ch>4096)=!decide (v.ch<=4096):=by rw[<- decide_not,decide_eq_decide];omega
 have e4:(v.use !=0)=!decide (v.use=0):=by by_cases h:v.use=0<;>simp[h]
 have e5:(v.units !=0)=!decide (v.units=0):=by by_cases h:v.units=0<;>simp[h]
 rw[e1,e2,e3,e4,e5,show ax.mk v.bj v.bp v.be v.bo=bU v from rfl];simp;generalize d6 (bU v)=a1;generalize decide (0<=v.b9)=a2;generalize decide (v.b9<v.ch)=a3;generalize decide (v.ch<=4096)=a4;generalize decide (v.use=0)=a5;generalize decide (v.units=0)=a6;generalize decide (0<=v.use)=a7;generalize decide (v.use<6)=a8;generalize decide (0<=v.units)=a9;generalize decide (v.units<=1048576)=j7;cases a1<;>cases a2<;>cases a3<;>cases a4<;>cases a5<;>cases a6<;>cases a7<;>cases a8<;>cases a9<;>rfl
theorem uj{v:ay}(h:okV v=true):d6 (bU v)=true:=by rw[okV,bC]at h;exact h.1
def b7(d:aG):List ay:=d.phases.flatMap (·.az)
theorem ev{l:List eF}(h:∀p∈l,p.az.length<=1000):(l.flatMap (·.az)).length<=l.length*1000:=by
 induction l with
 |nil=>simp
 |cons p l ih=>
  have h1:=h p (by simp);have h2:=ih λq hq=>h q (by simp[hq]);simp only[List.flatMap_cons,fQ,fU];omega
def wI(d:aG):Prop:=d.phases.length<=1000/\∀p∈d.phases,p.az.length<=1000
theorem WK{d:aG}(h:wI d)(hn:1001<=n):nY n d 0 d.phases.length=some (b7 d):=by
 obtain⟨h1,h2⟩:=h;unfold nY;have key:=Ju (step:=nN d 0 d.phases.length) (λ i=>(i,(d.phases.take i).flatMap (·.az))) (s:=(0,[])) d.phases.length (b7 d) rfl (λ i hi=>by
  have e2:decide (i>=0)=true:=by simp
  have hl:=ev (l:=d.phases.take i) λp hp=>h2 p (List.mem_of_mem_take hp);rw[length_take]at hl;have hv:=h2 _ (getElem_mem hi);generalize hL:(d.phases.take i).flatMap (·.az)=L at hl;have hap:bP L.length L.length d.phases[i].az.length d.phases[i].az.length 72=true:=eY (by omega) (by simp[maxLen];omega);simp only[nN,dV hi,aj,bJ hi,ai,e2,hap,gY,aN,aX i];rw[kL hi,List.flatMap_append,hL];simp) (by simp[nN,b7]) n (by omega)
 have hz:aE 0 ([]:List ay).length=true:=rfl;simp[key]
def NX(v:ay):Int:=(jO v).getD 0
theorem WL(v:ay):jO v=some (NX v):=by unfold NX jO;rw[lq];cases v.extra<;>cases okV v<;>rfl
def pR(v:ay):Int:=(mJ v).getD 0
theorem ad1(v:ay):mJ v=some (pR v):=by
 unfold pR mJ;rw[lq,WL];cases h:okV v with
 |false=>rfl
 |true=>
  have e:=xZ (uj h);unfold bU at e;simp[e]
def R7(f:ay->Int)(l:List ay):Int:=l.foldl (λ s v=>i64.wrap (s+f v)) 0
def QP(f:ay->Int)(l:List ay):Int:=l.foldl (λ s v=>max s (f v)) 0
theorem anQ a1 a8 {a9:List ay} (hl:a9.length<=1000) (hn:1001<=n):∀a0 a2 a3 a4 a5 a6 a7,lu n a0 a1 a2 a3 a4 a5 a6 a7 a8 a9=some (R7 pR a9,a0,a1,a2,a3,a4,a5,a6,a7,a8,a9):=by have key:=lM (l:=a9) (step:=j5 a9) (λ i s=>(s,i)) (λ v s=>i64.wrap (s+pR v)) (λ s=>s) (λ i hi s=>by simp only[j5,dV hi,aj,aV hi,bG hi,ai,ad1,aX i]) (λ s=>by simp[j5]) n (by omega) 0;rw[ll]at key;unfold lu qz;simp only[key,ai,aN,aj];exact λ_ _ _ _ _ _ _=>rfl
theorem anR a1 a8 {a9:List ay} (hl:a9.length<=1000) (hn:1001<=n):∀a0 a2 a3 a4 a5 a6 a7,lC n a0 a1 a2 a3 a4 a5 a6 a7 a8 a9=some (R7 (·.units) a9,a0,a1,a2,a3,a4,a5,a6,a7,a8,a9):=by have key:=lM (l:=a9) (step:=ko a9) (λ i s=>(s,i)) (λ v s=>i64.wrap (s+v.units)) (λ s=>s) (λ i hi s=>by simp only[ko,dV hi,aj,aV hi,bG hi,ai,oI,aX i]) (λ s=>by simp[ko]) n (by omega) 0;rw[ll]at key;unfold lC qC;simp only[key,ai,aN,aj];exact λ_ _ _ _ _ _ _=>rfl
theorem ala a1 a8 {a9:List ay} (hl:a9.length<=1000) (hn:1001<=n):∀a0 a2 a3 a4 a5 a6 a7,j6 n a0 a1 a2 a3 a4 a5 a6 a7 a8 a9=some (QP NX a9,a0,a1,a2,a3,a4,a5,a6,a7,a8,a9):=by have key:=lM (l:=a9) (step:=iF a9) (λ i s=>(s,i)) (λ v s=>max s (NX v)) (λ s=>s) (λ i hi s=>by simp only[iF,dV hi,aj,aV hi,bG hi,ai,WL,aX i]) (λ s=>by simp[iF]) n (by omega) 0;rw[ll]at key;unfold j6 mK;simp only[key,ai,aN,aj];exact λ_ _ _ _ _ _ _=>rfl
theorem alb a1 a8 {a9:List ay} (hl:a9.length<=1000) (hn:1001<=n):∀a0 a2 a3 a4 a5 a6 a7,kg n a0 a1 a2 a3 a4 a5 a6 a7 a8 a9=some (QP (·.ch) a9,a0,a1,a2,a3,a4,a5,a6,a7,a8,a9):=by have key:=lM (l:=a9) (step:=iG a9) (λ i s=>(s,i)) (λ v s=>max s v.ch) (λ s=>s) (λ i hi s=>by simp only[iG,dV hi,aj,aV hi,bG hi,ai,nP,aX i]) (λ s=>by simp[iG]) n (by omega) 0;rw[ll]at key;unfold kg mM;simp only[key,ai,aN,aj];exact λ_ _ _ _ _ _ _=>rfl
theorem ajb(e:bD)(a:Jk){u:Int}(h0:0<=u)(h6:u<6):∃b,kW e a u=some b:=by
 obtain⟨k,rfl⟩:∃k:Nat,u=k:=⟨u.toNat,by omega⟩;have hk:k<6:=by omega
 unfold kW;rw[aV hk,bJ (l:=[a.a0,a.a1,a.a2,a.a3,a.a4,a.a5]) hk];exact⟨_,rfl⟩
theorem EG{l:List bD}{φ:(bD×Unit)->Option Bool}(p:bD->Bool)(h:∀x∈l,φ (x,())=some (p x))(hl:l.length<=9223372036854775807)(hn:l.length<n):kX n l φ=some (AA p l):=E5 p h hl hn
theorem anS(p:bT){u:Int}(h0:0<=u)(h6:u<6)(ht:p.tables.length<n)(ht2:p.tables.length<=9223372036854775807)(hr:∀t∈p.tables,t.rows.length<n/\t.rows.length<=9223372036854775807):∃r,zZ n p u=some r:=by
 have key:∃o,iter (kY n p u) n 0=some o/\True:=by
  have step:∀i (hi:i<p.tables.length),kY n p u i=some (.inl (i+1:Nat))\/∃z,kY n p u i=some (.inr (.inr z)):=by
   intro i hi;obtain⟨r1,r2⟩:=hr _ (getElem_mem hi);simp only[kY,dV hi,aj,bJ hi,ai,aX i];cases ByteArray.toList p.tables[i].name==ByteArray.toList ⟨#[116,114,97,102,102,105,99]⟩with
   |false=>exact Or.inl rfl
   |true=>
    right;simp;generalize Jk.mk _ _ _ _ _ _=A;have hx:=EG (n:=n) (l:=p.tables[i].rows) (φ:=λy1=>kW y1.1 A u) (λ e=>(kW e A u).getD false) (λ e _=>by have⟨b,hb⟩:=ajb e A h0 h6;simp[hb]) r2 r1;rw[hx];simp[wZ];cases hany:p.tables[i].rows.any λe=>(kW e A u).getD false with
    |false=>exact⟨_,rfl⟩
    |true=>
     have⟨j,hj,h1,_⟩:=aku hany;rw[h1];simp only[aj,bJ hj,ai];exact⟨_,rfl⟩
  have main:∀k i m,i+k=p.tables.length->k<m->∃o,iter (kY n p u) m i=some o/\True:=by
   intro k
   induction k with
   |zero=>
    intro i m hi hm;obtain⟨q,rfl⟩:∃q,m=q+1:=⟨m-1,by omega⟩;have:i=p.tables.length:=(by omega);subst this;exact⟨.inl (),cu (by simp[kY]),trivial⟩
   |succ k ih=>
    intro i m hi hm;obtain⟨q,rfl⟩:∃q,m=q+1:=⟨m-1,by omega⟩;rcases step i (by omega)with h|⟨z,h⟩;rw[dM h];exact ih (i+1) q (by omega) (by omega);exact⟨_,cu h,trivial⟩
  exact main p.tables.length 0 n (by omega) ht
 obtain⟨o,h1,_⟩:=key;unfold zZ;rw[h1];cases o with
 |inl w|inr r=>exact⟨_,rfl⟩
theorem agq(p:bT){v:ay}(hv:okV v=true)(ht:p.tables.length<n)(ht2:p.tables.length<=9223372036854775807)(hr:∀t∈p.tables,t.rows.length<n/\t.rows.length<=9223372036854775807):∃r,jP n p v=some r:=by
 simp[okV]at hv;have⟨r,h1⟩:=anS (n:=n) p (u:=v.use) hv.2.2.2.2.2.1 hv.2.2.2.2.2.2.1 ht ht2 hr;unfold jP;rw[h1,ad1];simp;have e100:(100 !=0)=true:=rfl;by_cases h:r>0;have e:(r !=0)=true:=by simp;omega
 have e2:decide (r>0)=true:=by simpa using h
 rw[e,e2];simp;cases decide (pR v>i64.wrap (Int.tdiv 109951162777600 r))<;>exact⟨_,rfl⟩;have e2:decide (r>0)=false:=by simpa using h
 rw[e2];exact⟨_,rfl⟩
def am9(n:Nat)(ts:List cO)(v:ay):Int:=(jP n (bT.mk [] ts [] [] [] [] [] 0) v).getD 0
theorem anT a1 a8 {a9:List ay} (hl:a9.length<=1000) (hn:1001<=n) (hv:∀v∈a9,okV v=true) (ht:a1.length<n) (ht2:a1.length<=9223372036854775807) (hr:∀t∈a1,t.rows.length<n/\t.rows.length<=9223372036854775807):∀a0 a2 a3 a4 a5 a6 a7,jK n a0 a1 a2 a3 a4 a5 a6 a7 a8 a9=some (R7 (am9 n a1) a9,a0,a1,a2,a3,a4,a5,a6,a7,a8,a9):=by have key:=λa0 a2 a3 a4 a5 a6 a7=>gL (l:=a9) (step:=ku n a9) (λ i s=>(s,i,a0,a1,a2,a3,a4,a5,a6,a7,a8,a9)) (λ v s=>i64.wrap (s+(jP n (bT.mk [] a1 [] [] [] [] [] 0) v).getD 0)) (λ s=>(s,a0,a1,a2,a3,a4,a5,a6,a7,a8,a9)) (λ _ _=>True) (λ i hi s _=>⟨by obtain⟨r,h1⟩:=agq (n:=n) (bT.mk [] a1 [] [] [] [] [] 0) (hv _ (getElem_mem hi)) ht ht2 hr;have h2:jP n (bT.mk a0 a1 a2 a3 a4 a5 a6 a7) a9[i]=some r:=h1;simp only[ku,dV hi,aj,aV hi,bG hi,ai,kZ,h1,h2,aN,aX i,Option.getD_some],trivial⟩) (λ s _=>by simp[ku]) n (by omega) 0 trivial;have key:=λa0 a2 a3 a4 a5 a6 a7=>(ll) ▸ key a0 a2 a3 a4 a5 a6 a7;unfold jK qD;simp only[key,ai,aN,aj];exact λ_ _ _ _ _ _ _=>rfl
theorem alc{α β:Type}(l:List α)(f:α->β)(z:β){i:Nat}(hi:i<l.length):((l.take i).map f++List.replicate (l.length-i) z).set i (f l[i])=(l.take (i+1)).map f++List.replicate (l.length-(i+1)) z:=by
 have h1:((l.take i).map f).length=i:=by simp;omega
 rw[List.set_append_right _ _ (by omega),h1,Nat.sub_self,show l.length-i=(l.length-(i+1))+1 by omega,List.replicate_succ,List.set_cons_zero,kL hi,map_append,aT];rfl
theorem ald{α β:Type}(l:List α)(f:α->β)(z:β){i:Nat}(hi:i<=l.length):((l.take i).map f++List.replicate (l.length-i) z).length=l.length:=by simp;omega
theorem ale{α β:Type}(l:List α)(f:α->β)(z:β){i:Nat}(hi:i<l.length):((l.take (i+1)).map f++List.replicate (l.length-(i+1)) z)[i]? =some (f l[i]):=by rw[List.getElem?_append_left (by simp;omega)];simp[hi]
theorem alf{l:List ay}(hl:l.length<=1000)(hn:1001<=n):iter (gV l) n (0,List.replicate l.length (ax.mk 0 0 0 0),[])=some (l.map bU,l.flatMap λv=>[v.bj,v.be]):=by
 refine Ju (step:=gV l) (λ i=>(i,(l.take i).map bU++List.replicate (l.length-i) (ax.mk 0 0 0 0),(l.take i).flatMap λv=>[v.bj,v.be])) l.length _ ?_ (λ i hi=>?_) ?_ n (by omega);simp;have h1:=ald l bU (ax.mk 0 0 0 0) (Nat.le_of_lt hi);have h2:=alc l bU (ax.mk 0 0 0 0) hi;have h3:=ale l bU (ax.mk 0 0 0 0) hi;have h4:((l.take i).flatMap λv=>[v.bj,v.be]).length=2*i:=by
  have:∀m:List ay,(m.flatMap λv=>[v.bj,v.be]).length=2*m.length:=by
   intro m;induction m with
   |nil=>rfl
   |cons a m ih=>simp[ih];omega
  rw[this,length_take];omega
 generalize (l.take i).map bU++List.replicate (l.length-i) (ax.mk 0 0 0 0)=B at h1 h2;have e0:(((0:Nat):Int)+i).toNat=i:=by omega
 have et:(l.length:Int).toNat=l.length:=by omega
 have hb:ax.mk l[i].bj l[i].bp l[i].be l[i].bo=bU l[i]:=rfl;have hiB:i<B.length:=by omega
 rw[<- h2]at h3;have g3:bz (B.set i (bU l[i])) ((0:Nat)+i)=some (bU l[i]):=by rw[oM];exact h3
 have hs:sub ([(bU l[i]).x0,(bU l[i]).x1]:List Int) 0 2=[(bU l[i]).x0,(bU l[i]).x1]:=rfl;have hap:bP (2*i) (2*i) 2 2 8=true:=eY (by omega) (by simp[maxLen];omega);have hl2:([(bU l[i]).x0,(bU l[i]).x1]:List Int).length=2:=rfl;simp only[gV,dV hi,aj,aV hi,bG hi,ai,et,bG hiB,e0,hb,g3,hs,hl2,h4,hap,gY,aN,aX i];rw[<- h2,kL hi,List.flatMap_append];rfl;simp only[gV,Wm,au,aN,aj,List.take_length];simp
def cst(x w:Int)(s:Int×Int)(r:ax):Int×Int:=
 bif decide (r.x0<=x)&&(decide (x<r.x1)&&decide (r.y1>s.2))then(i64.wrap (s.1+i64.wrap (i64.wrap w*i64.wrap (r.y1-max s.2 r.y0))),r.y1)else s
def P4(R:List ax)(X:List Int)(n:Int)(k:Nat):Int:=(R.foldl (cst (X.getD k 0) (X.getD (k+1) 0-X.getD k 0)) (n,0)).1
def agr(R:List ax)(X:List Int):Int:=(List.range (X.length-1)).foldl (P4 R X) 0
def SZ(l:List ay):Int:=agr (rV wv (l.map bU)) (kV ot (l.flatMap λv=>[v.bj,v.be]))
theorem alg{l:List ay}{R:List ax}{X:List Int} w2 (hR:R.length=l.length) (hX:X.length=w2.length) (hl:l.length<=1000) (hn:1001<=n) {k:Nat} (hk:k+1<w2.length) (hw:w2.length<=10000) s:iter (gW l w2 R X k) n (s,0,0)=some (P4 R X s k):=by
 have et:((l.length:Int).toNat)=l.length:=by omega
 have ew:i64.wrap (k+1)=(k+1:Nat):=aR (by omega);have g1:X.getD k 0=X[k]'(by omega):=by simp[show k<X.length by omega]
 have g2:X.getD (k+1) 0=X[k+1]'(by omega):=by simp[show k+1<X.length by omega]
 unfold P4;rw[g1,g2];refine lM (l:=R) (step:=gW l w2 R X k) (λ i (s:Int×Int)=>(s.1,s.2,i)) (λ r s=>cst (X[k]'(by omega)) (X[k+1]'(by omega)-X[k]'(by omega)) s r) (λ s=>s.1) (λ i hi v=>?_) (λ v=>?_) n (by omega) (s,0);obtain⟨a,b⟩:=v;simp only[gW,et,dV (show i<l.length by omega),aj,aV (show i<l.length by omega),bG (show i<R.length by omega),ai,aV (show k<w2.length by omega),bG (show k<X.length by omega),ew,aV hk,bG (show k+1<X.length by omega),aX i,cst];cases decide ((R[i]'(by omega)).x0<=X[k]'(by omega))with
 |false=>rfl
 |true=>
  simp;cases decide (X[k]'(by omega)<(R[i]'(by omega)).x1)with
  |false=>rfl
  |true=>
   cases decide ((R[i]'(by omega)).y1>b)<;>rfl
 obtain⟨a,b⟩:=v;simp[gW,hR]
theorem alh a1 a8 {a9:List ay} (hl:a9.length<=1000) (hn:10000<=n):∀a0 a2 a3 a4 a5 a6 a7,je n a0 a1 a2 a3 a4 a5 a6 a7 a8 a9=some (SZ a9,a0,a1,a2,a3,a4,a5,a6,a7,a8,a9):=by
 have et:((a9.length:Int).toNat)=a9.length:=by omega
 have mk:wC (a9.length:Nat) 32=true:=ahT (by omega) (by simp[maxLen];omega);have d1:decide ((a9.length:Nat)<=(a9.length:Nat))=true:=by simp
 have d2:decide (0<=(a9.length:Nat))=true:=by simp
 have hz:aE 0 ([]:List Int).length=true:=rfl;have hx:(a9.flatMap λv=>[v.bj,v.be]).length<=2000:=by
  have:∀m:List ay,(m.flatMap λv=>[v.bj,v.be]).length=2*m.length:=by
   intro m;induction m with
   |nil=>rfl
   |cons a m ih=>simp[ih];omega
  rw[this];omega
 unfold je;rw[et,alf hl (by omega)];unfold SZ;generalize (a9.flatMap λv=>[v.bj,v.be])=W at hx;have srt:=JD (n:=n) (l:=a9.map bU) (φ:=λy1=>jd y1.1 y1.2.1) (λ x y=>if x.y0<y.y0 then -1 else if y.y0<x.y0 then 1 else 0) (λ x y=>by show jd x y=_;unfold jd;rw[jm];rfl) (λ x y=>by unfold wv;rw[decide_eq_decide];constructor;intro h;split at h;assumption;split at h<;>omega;intro h;rw[aY h];decide) (by simp;omega) (by simp;omega);have hm:aE a9.length (a9.map bU).length=true:=by simp
 have hR:(rV wv (a9.map bU)).length=a9.length:=by rw[D9 ahV];simp
 have hX:(kV ot W).length=W.length:=(Eb ot W).length_eq;simp[mk,srt,pO (show W.length<1099511627776 by omega) (show W.length<n by omega)];generalize rV wv (a9.map bU)=R at hR;generalize kV ot W=X at hX;have key:iter (gX n a9 W R X) n (0,0)=some (agr R X):=by
  have eN:max 0 (i64.wrap ((W.length:Nat)-1))=(W.length-1:Nat):=by
   cases h:W.length with
   |zero=>rfl
   |succ k=>rw[nu (by omega) (by omega)];omega
  have hrl:(List.range (X.length-1)).length=W.length-1:=by rw[List.length_range];omega
  unfold agr;refine lM (l:=List.range (X.length-1)) (step:=gX n a9 W R X) (λ i s=>(s,i)) (λ k s=>P4 R X s k) (λ s=>s) (λ i hi s=>?_) (λ s=>?_) n (by omega) 0;have hi':i<W.length-1:=by omega
  simp only[gX,eN,dV hi',aj,alg (n:=n) (l:=a9) (R:=R) (X:=X) W hR hX hl (by omega) (k:=i) (by omega) (by omega) s,ai,aX i,List.getElem_range];simp[gX,eN,hrl]
 rw[key];exact λ_ _ _ _ _ _ _=>rfl
def N5(b:ax)(k:Int):ax:=⟨b.x0-k,b.y0-k,b.x1+k,b.y1+k⟩
def EH(area:List ax)(b:ax)(k:Int):Bool:=d6 (N5 b k)&&decide (area.foldl (λ s y=>WB (N5 b k) s y) 0=N1 (N5 b k))
theorem ajc(b:ax) k a2 a3 a4 a5 a6 a7 a8 a9 {j7:List ax} ta (hb:d6 b=true) (h0:0<=k) (h1:k<=1048576) (hl:j7.length<=1000) (hn:1001<=n):
 kr n b k a2 a3 a4 a5 a6 a7 a8 a9 j7 ta=some (EH j7 b k,a2,a3,a4,a5,a6,a7,a8,a9,j7,ta):=by
 rw[amA]at hb;unfold kr AO EH;rw[aM (x:=b.x0-k),aM (x:=b.y0-k),aM (x:=b.x1+k),aM (x:=b.y1+k),show ax.mk (b.x0-k) (b.y0-k) (b.x1+k) (b.y1+k)=N5 b k from rfl,jS];generalize N5 b k=g;simp;cases hg:d6 g with
 |false=>simp
 |true=>
  have key:=lM (l:=j7) (step:=iZ j7 (g,true)) (λ i s=>(s,i)) (λ y s=>WB g s y) (λ s=>s) (λ i hi s=>by
   simp only[iZ,dV hi,aj,bJ hi,ai,uh,aX i,WB];cases h1:d6 g with
   |false=>rfl
   |true=>
    cases h2:d6 j7[i]with
    |false=>rfl
    |true=>
     cases h3:d6 (wU g j7[i])with
     |false=>rfl
     |true=>simp[xZ h3]) (λ s=>by simp[iZ]) n (by omega) 0
  rw[ll]at key;simp[key,xZ hg];congr 2
def PX(p:Int->Bool):Nat->Int->Int->Int
 | 0,lo,_=>lo
 |k+1,lo,hi=>bif decide (lo<hi)then(bif p ((lo+hi+1)/2)then PX p k ((lo+hi+1)/2) hi else PX p k lo ((lo+hi+1)/2-1))else lo
theorem aby(p:Int->Bool):∀k lo hi,lo<=hi->lo<=PX p k lo hi/\PX p k lo hi<=hi
 | 0,lo,hi,h=>by simp[PX];omega
 |k+1,lo,hi,h=>by
  simp[PX];by_cases h1:lo<hi;have e:decide (lo<hi)=true:=by simpa using h1
  rw[e,aj];cases p ((lo+hi+1)/2)with
  |true=>have:=aby p k ((lo+hi+1)/2) hi (by omega);simp;omega
  |false=>have:=aby p k lo ((lo+hi+1)/2-1) (by omega);simp;omega
  have e:decide (lo<hi)=false:=by simpa using h1
  rw[e,au];omega
theorem ags{v:ay}(hv:d6 (bU v)=true) a2 a3 a4 a5 a6 a7 a8 a9 {j7:List ax} ta (hl:j7.length<=1000) (hn:1001<=n):
 ∀(k:Nat) lo hi m,0<=lo->lo<=hi->hi<=1048576->hi-lo<2 ^ k->k<m->iter (eZ n v) m (lo,hi,a2,a3,a4,a5,a6,a7,a8,a9,j7,ta)=some (PX (EH j7 (bU v)) k lo hi,a2,a3,a4,a5,a6,a7,a8,a9,j7,ta):=by
 intro k
 induction k with
 |zero=>
  intro lo hi m h0 h1 h2 h3 hm;obtain⟨q,rfl⟩:∃q,m=q+1:=⟨m-1,by omega⟩;have:lo=hi:=by simp at h3;omega
  subst this;refine cu ?_;have e:decide (lo<lo)=false:=by simp
  simp[eZ,PX]
 |succ k ih=>
  intro lo hi m h0 h1 h2 h3 hm;obtain⟨q,rfl⟩:∃q,m=q+1:=⟨m-1,by omega⟩;have hp:(2:Int) ^ (k+1)=2*2 ^ k:=by rw[Int.pow_succ];omega
  rw[hp]at h3;by_cases hlt:lo<hi;have e:decide (lo<hi)=true:=by simpa using hlt
  have e2:((2:Nat) !=0)=true:=rfl;have em:i64.wrap (Int.tdiv (i64.wrap (i64.wrap (lo+hi)+1)) 2)=(lo+hi+1)/2:=by rw[aM (x:=lo+hi),aM (x:=lo+hi+1),Int.tdiv_eq_ediv_of_nonneg (by omega),aM (by omega) (by omega)]
  have hi2:=ajc (n:=n) (bU v) ((lo+hi+1)/2) a2 a3 a4 a5 a6 a7 a8 a9 (j7:=j7) ta hv (by omega) (by omega) hl hn;unfold bU at hi2;cases hc:EH j7 (bU v) ((lo+hi+1)/2)with
  |true=>
   rw[dM (v':=((lo+hi+1)/2,hi,a2,a3,a4,a5,a6,a7,a8,a9,j7,ta)) (by unfold bU at hc;simp[eZ,e,em,hi2,hc]),ih _ _ _ (by omega) (by omega) (by omega) (by omega) (by omega)];simp[PX,e,hc]
  |false=>
   rw[dM (v':=(lo,(lo+hi+1)/2-1,a2,a3,a4,a5,a6,a7,a8,a9,j7,ta)) (by unfold bU at hc;simp[eZ,e,em,hi2,hc,aM (x:=(lo+hi+1)/2-1)]),ih _ _ _ (by omega) (by omega) (by omega) (by omega) (by omega)];simp[PX,e,hc]
  have e:decide (lo<hi)=false:=by simpa using hlt
  refine cu ?_;simp[eZ,e,PX]
def Cx(area:List ax)(l:List ay):Int:=l.foldl (λ b v=>PX (EH area (bU v)) 21 0 b) 1048576
theorem agt a0 a1 a2 a3 a4 a5 a6 a7 {a8:List ax} {a9:List ay} (hv:∀v∈a9,okV v=true) (hl:a9.length<=1000) (h8:a8.length<=1000) (hn:1001<=n):jJ n a0 a1 a2 a3 a4 a5 a6 a7 a8 a9=some (Cx a8 a9,a0,a1,a2,a3,a4,a5,a6,a7,a8,a9):=by have key:=gL (l:=a9) (step:=iR n a9) (λ i s=>(s,i,a0,a1,a2,a3,a4,a5,a6,a7,a8,a9)) (λ v s=>PX (EH a8 (bU v)) 21 0 s) (λ s=>(s,a0,a1,a2,a3,a4,a5,a6,a7,a8,a9)) (λ _ s=>0<=s/\s<=1048576) (λ i hi s hs=>by have h1:=ags (n:=n) (uj (hv _ (getElem_mem hi))) a0 a1 a2 a3 a4 a5 a6 a7 (j7:=a8) a9 h8 hn 21 0 s n (by omega) hs.1 hs.2 (by have:2 ^ 21=2097152:=rfl;omega) (by omega);have h2:=aby (EH a8 (bU a9[i])) 21 0 s hs.1;refine⟨?_,by omega,by omega⟩;simp only[iR,dV hi,aj,aV hi,bG hi,ai,aN,h1,aX i]) (λ s _=>by simp[iR]) n (by omega) 1048576 (by omega);rw[ll]at key;unfold jJ;simp[key];rfl
def gJ(d:aG):List ay:=((b7 d).take 40).filter okV
theorem abz(d:aG):∀v∈gJ d,okV v=true:=λv hv=>(mem_filter.1 hv).2
theorem Yr(d:aG):(gJ d).length<=40:=Nat.le_trans (length_filter_le _ _) (by rw[length_take];omega)
def qV(lot:iK):List ax:=bif cH lot.area then lot.area else []
theorem aow{l:List ay} a0 a1 a2 a3 a4 a5 a6 a7 a8 (hl:l.length<=9223372036854775807) (hn:l.length<n):
 iter (qL l) n (0,a0,a1,a2,a3,a4,a5,a6,a7,a8,[])=some (a0,a1,a2,a3,a4,a5,a6,a7,a8,(l.take 40).filter okV):=by
 refine Ju (step:=qL l) (λ i=>(i,a0,a1,a2,a3,a4,a5,a6,a7,a8,((l.take i).take 40).filter okV)) l.length _ (by simp) (λ i hi=>?_) ?_ n hn;have hlen:(((l.take i).take 40).filter okV).length<=40:=Nat.le_trans (length_filter_le _ _) (by rw[length_take];omega);have e40:decide ((i:Int)<40)=decide (i<40):=by rw[decide_eq_decide];omega
 have hs:sub ([l[i]]:List ay) 0 1=[l[i]]:=rfl;have hN:((l.take (i+1)).take 40).filter okV=((l.take i).take 40).filter okV++(bif decide (i<40)&&okV l[i]then [l[i]]else []):=by
  by_cases h:i<40;have h1:(l.take i).take 40=l.take i:=take_of_length_le (by rw[length_take];omega);have h2:(l.take (i+1)).take 40=l.take (i+1):=take_of_length_le (by rw[length_take];omega);have h3:decide (i<40)=true:=by simpa using h
  rw[h1,h2,kL hi,List.filter_append,h3];cases h4:okV l[i]<;>simp[h4];have h3:decide (i<40)=false:=by simpa using h
  rw[List.take_take,List.take_take,h3,show min 40 (i+1)=40 by omega,show min 40 i=40 by omega];simp
 rw[hN];generalize ((l.take i).take 40).filter okV=L at hlen;have hap:bP L.length L.length 1 1 72=true:=eY (by omega) (by simp[maxLen];omega);simp only[qL,dV hi,aj,aV hi,bG hi,ai,e40,lq,aX i];cases decide (i<40)with
 |false=>simp
 |true=>
  simp;cases okV l[i]with
  |false=>simp
  |true=>simp[hs,hap]
 simp[qL]
def S8(n:Nat)(p:bT):Prop:=p.tables.length<n/\p.tables.length<=9223372036854775807/\∀t∈p.tables,t.rows.length<n/\t.rows.length<=9223372036854775807
def Cy:ByteArray:=⟨#[115,101,116,98,97,99,107]⟩
def N4(n:Nat)(ts:List cO)(A:List ax)(l:List ay):List bD:=[⟨⟨#[97,114,101,97]⟩,bif cH A then KQ A else 0⟩,⟨⟨#[99,111,118,101,114]⟩,SZ l⟩,⟨⟨#[102,108,111,111,114]⟩,R7 pR l⟩,⟨⟨#[102,108,111,111,114,115]⟩,QP NX l⟩,⟨⟨#[104,101,105,103,104,116]⟩,QP (·.ch) l⟩,⟨⟨#[104,111,109,101,115]⟩,R7 (·.units) l⟩,⟨⟨#[114,117,110,111,102,102]⟩,SZ l⟩,⟨Cy,Cx A l⟩,⟨⟨#[116,114,97,102,102,105,99]⟩,R7 (am9 n ts) l⟩]
theorem ali{p:bT}{lot:iK}{d:aG}(hp:S8 n p)(hl:lot.area.length<=900)(hd:wI d)(hn:2000000<=n):∀D Z R C V S H,jk n (bT.mk D p.tables Z R C V S H) lot d=some (N4 n p.tables (qV lot) (gJ d)):=by
 have hs1:qV lot=(bif cH lot.area then lot.area else []):=rfl;have hsl:(qV lot).length<=900:=by unfold qV;cases cH lot.area<;>simp[hl]
 have hvl:=Yr d;have GO:=abz d;have hfl:=ev hd.2;have hd1:=hd.1;obtain⟨hp1,hp2,hp3⟩:=hp;have hz:aE 0 ([]:List ay).length=true:=rfl;have It:∀D Z R C V S H,((bif cH lot.area then some (D,p.tables,Z,R,C,V,S,H,lot.area)else some (D,p.tables,Z,R,C,V,S,H,[])):Option ((List gT)×(List cO)×(List fG)×(List cK)×(List jr)×(List iw)×(List dD)×Int×(List ax)))=some (D,p.tables,Z,R,C,V,S,H,qV lot):=by intro D Z R C V S H;rw[hs1];cases cH lot.area<;>rfl
 have h2:=alh (n:=n) p.tables (qV lot) (a9:=gJ d) (by omega) (by omega);have h3:=anQ (n:=n) p.tables (qV lot) (a9:=gJ d) (by omega) (by omega);have h4:=ala (n:=n) p.tables (qV lot) (a9:=gJ d) (by omega) (by omega);have h5:=alb (n:=n) p.tables (qV lot) (a9:=gJ d) (by omega) (by omega);have h6:=anR (n:=n) p.tables (qV lot) (a9:=gJ d) (by omega) (by omega);have h8:=λD Z R C V S H=>agt (n:=n) D p.tables Z R C V S H (a8:=qV lot) (a9:=gJ d) GO (by omega) (by omega) (by omega);have h9:=anT (n:=n) p.tables (qV lot) (a9:=gJ d) (by omega) (by omega) GO hp1 hp2 hp3;intro D Z R C V S H;unfold jk;rw[kK (by omega) (by omega) (by omega),WK hd (by omega)];simp[It];rw[aow (n:=n) D p.tables Z R C V S H (qV lot) (by show(b7 d).length<=_;unfold b7;omega) (by show(b7 d).length<_;unfold b7;omega)];have hr:((b7 d).take 40).filter okV=gJ d:=rfl;have s1:∀e:bD,sub ([e]:List bD) 0 1=[e]:=λ_=>rfl;have ap:∀k,k<=20->bP k k 1 1 24=true:=λk hk=>eY (by omega) (by simp[maxLen];omega);have lot:ng n D p.tables Z R C V S H (qV lot) (gJ d)=some (bif cH (qV lot)then KQ (qV lot)else 0,D,p.tables,Z,R,C,V,S,H,qV lot,gJ d):=by unfold ng;rw[KR (by omega) (by omega)];simp
 simp[hr,lot,h2,h3,h4,ap 4 (by omega),h5,ap 5 (by omega),h6,ap 6 (by omega),h8,ap 7 (by omega),h9,ap 8 (by omega),Nat.reduceAdd,jq];rfl
theorem anU{p:bT}{lot:iK}{d:aG}(hp:S8 n p)(hl:lot.area.length<=900)(hd:wI d)(hn:2000000<=n):∃e1 e2 e3 e4 e5 e6 e7 e8:Int,∀D Z R C V S H,jk n (bT.mk D p.tables Z R C V S H) lot d=some [⟨⟨#[97,114,101,97]⟩,e1⟩,⟨⟨#[99,111,118,101,114]⟩,e2⟩,⟨⟨#[102,108,111,111,114]⟩,e3⟩,⟨⟨#[102,108,111,111,114,115]⟩,e4⟩,⟨⟨#[104,101,105,103,104,116]⟩,e5⟩,⟨⟨#[104,111,109,101,115]⟩,e6⟩,⟨⟨#[114,117,110,111,102,102]⟩,e7⟩,⟨Cy,Cx (qV lot) (gJ d)⟩,⟨⟨#[116,114,97,102,102,105,99]⟩,e8⟩]:=⟨_,_,_,_,_,_,_,_,ali (n:=n) hp hl hd hn⟩
theorem aox{p:bT}{lot:iK}{d:aG}(hp:S8 n p)(hl:lot.area.length<=900)(hd:wI d)(hn:2000000<=n):∃e1 e2 e3 e4 e5 e6 e7 e8:Int,∀R:List cK,jk n (bT.mk p.defs p.tables p.zones R p.caps p.views p.sm p.hours) lot d=some [⟨⟨#[97,114,101,97]⟩,e1⟩,⟨⟨#[99,111,118,101,114]⟩,e2⟩,⟨⟨#[102,108,111,111,114]⟩,e3⟩,⟨⟨#[102,108,111,111,114,115]⟩,e4⟩,⟨⟨#[104,101,105,103,104,116]⟩,e5⟩,⟨⟨#[104,111,109,101,115]⟩,e6⟩,⟨⟨#[114,117,110,111,102,102]⟩,e7⟩,⟨Cy,Cx (qV lot) (gJ d)⟩,⟨⟨#[116,114,97,102,102,105,99]⟩,e8⟩]:=by have⟨e1,e2,e3,e4,e5,e6,e7,e8,h⟩:=anU (n:=n) hp hl hd hn;exact⟨e1,e2,e3,e4,e5,e6,e7,e8,λR=>h _ _ R _ _ _ _⟩
theorem ahX(ds:List (ByteArray×ET)) s:∀(k:Nat) i,MC ds s k=some i->0<=i/\i<k
 | 0,i,h=>by simp[MC]at h
 |k+1,i,h=>by simp[MC]at h;split at h;cases h;omega;have:=ahX ds s k i h;omega
theorem amD{ds:List (ByteArray×ET)}(h:rk ds<=4000000):Yl (oH ds) ds.length:=by have hl:=TH ds;refine⟨by simp[oH],by omega,λl hl=>?_⟩;simp only[oH,mem_map]at hl;obtain⟨d,hd,rfl⟩:=hl;have h1:=TJ hd;have h2:=ET.pb d.2;have h3:=adu d.2.names;refine⟨Nat.le_trans (List.length_filterMap_le _ _) (by omega),λk hk=>?_⟩;simp[iO]at hk;obtain⟨s,_,hk⟩:=hk;exact ahX ds s _ k hk
theorem ad4{M:List ByteArray}(hM:M.length<=1000)(hn:1001<=n)(w0:List (ByteArray×Bool)):∃w,iter (nZ M) n (0,w0)=some w:=by obtain⟨o,h,_⟩:=eO (step:=nZ M) (λ i (v:Int×List (ByteArray×Bool))=>∃w,v=((i:Int),w)/\i<=M.length) (λ _=>True) M.length (λ k v ⟨_,_,h⟩=>h) (by rintro i v ⟨w,rfl,hi⟩;by_cases hlt:i<M.length;simp only[nZ,show decide ((i:Int)<M.length)=true from by simp;omega,aj,aV hlt,bG hlt,ai,aX i];exact .inl ⟨_,rfl,_,rfl,hlt⟩;simp only[nZ,show decide ((i:Int)<M.length)=false from by simp;omega,au];exact .inr ⟨_,rfl,trivial⟩) n 0 (0,w0) ⟨_,rfl,Nat.zero_le _⟩ (by omega);exact⟨o,h⟩
theorem ad5{p:bT}(hp:p.defs.length<=4000000)(hn:4000001<=n)(w0:List (ByteArray×Bool)):iter (lT p) n (0,w0)=some (.inl ())\/iter (lT p) n (0,w0)=some (.inr ([],[],5)):=by
 obtain⟨o,h,h2⟩:=eO (step:=lT p) (λ i (v:Int×List (ByteArray×Bool))=>∃w,v=((i:Int),w)/\i<=p.defs.length) (λ o=>o=.inl ()\/o=.inr ([],[],5)) p.defs.length (λ k v ⟨_,_,h⟩=>h) (by
  rintro i v ⟨w,rfl,hi⟩;by_cases hlt:i<p.defs.length;simp only[lT,show decide ((i:Int)<p.defs.length)=true from by simp;omega,aj,bJ hlt,ai,aX i];cases (iq Gb.fY p.defs[i].name w).getD false with
  |true=>exact .inr ⟨_,rfl,.inr rfl⟩
  |false=>exact .inl ⟨_,rfl,_,rfl,hlt⟩
  simp only[lT,show decide ((i:Int)<p.defs.length)=false from by simp;omega,au];exact .inr ⟨_,rfl,.inl rfl⟩) n 0 (0,w0) ⟨_,rfl,Nat.zero_le _⟩ (by omega)
 rcases h2 with rfl|rfl;exact .inl h;exact .inr h
theorem ad6:∃M,wG=some M/\M.length=9:=⟨_,rfl,rfl⟩
def gp(l:List gT):Prop:=rk (l.map toD)<=4000000
theorem gp.len{l:List gT}(h:gp l):l.length<=4000000:=by have:=TH (l.map toD);rw[length_map]at this;unfold gp at h;omega
theorem gp.body{l:List gT}(h:gp l){d:gT}(hd:d∈l):(toE (bV.mk d.iu d.lw d.kq d.ik d.el)).wt<=4000000:=by have h1:=TJ (mem_map.2 ⟨d,hd,rfl⟩:toD d∈l.map toD);unfold gp at h;simp[toD,ET.wt]at h1;simp[toE,ET.wt];omega
theorem R8{p:bT}(hp:gp p.defs)(hn:5000003<=n):∃r,nS n p=some r/\r.1.length<=p.defs.length/\(∀ k∈r.1,0<=k/\k<p.defs.length)/\r.2.1.length<=p.defs.length+1:=by
 obtain⟨M,hM,hM9⟩:=ad6;obtain⟨w,hw⟩:=ad4 (n:=n) (M:=M) (by omega) (by omega) [];have hg:Yl (oH (p.defs.map toD)) p.defs.length:=by have:=amD hp;rwa [length_map]at this
 have PB:lQ p.defs=some (p.defs,oH (p.defs.map toD)):=by unfold lQ;rw[Nat.ble_eq_true_of_le hp];rfl
 simp only[nS,hM,ai,hw];rcases ad5 (n:=n) (p:=p) hp.len (by omega) w with h|h;have⟨c,hc,hc2,hc3⟩:=adD (n:=n) (a0:=p.defs) hg rfl hn;simp only[h,gF,PB,ai,hc];cases h0:(c.length==0)with
 |true=>
  have e:c=[]:=List.eq_nil_of_length_eq_zero (by simpa using h0);obtain⟨l,hl,hll,hlr⟩:=akY (n:=n) (a0:=pE.mk p.defs (oH (p.defs.map toD))) hg rfl (hc2 e) (by omega);simp only[aj,ai,au,hl,jq,aN];exact⟨_,rfl,by simp[hll],hlr,by simp⟩
 |false=>
  simp only[aj,ai,au,jq,aN];exact⟨_,rfl,by simp,by simp,hc3⟩
 simp only[h,kM];exact⟨_,rfl,by simp,by simp,by simp⟩
theorem Cz(x:bV):bV.mk x.op x.n x.s x.key x.args=x:=by cases x;rfl
theorem Ns:∀l:List bV,Hy l=l.map toE
 |[]=>rfl
 |x::xs=>by simp[Hy,Ns xs]
theorem ahY:∀{l:List ET}{t:ET},t∈l->t.wt<=ET.te l
 |x::l,t,h=>by simp[ET.te];rcases aQ.1 h with rfl|h;omega;have:=ahY h;omega
theorem agu{e x:bV}(h:x∈e.args):(toE x).wt<(toE e).wt:=by have h1:(toE x).wt<=ET.te (Hy e.args):=ahY (by rw[Ns];exact mem_map.2 ⟨x,h,rfl⟩);cases e;simp[toE,ET.wt]at *;omega
theorem abB(e:bV):e.args.length<(toE e).wt:=by have h1:=ET.qS (Hy e.args);rw[Ns,length_map]at h1;cases e;simp[toE,ET.wt,Ns]at *;omega
def VR:Nat->bV->Prop
 | 0,_=>False
 |k+1,e=>yL e.op=some ((e.args.length:Int),true)/\∀x∈e.args,VR k x
theorem agv op:∃a b,yL op=some (a,b):=by simp only[yL];cases (op==0)<;>cases (op==1)<;>cases (op==2)<;>cases (op==3)<;>cases (op==9)<;>cases (op==15)<;>cases (op==16)<;>cases (decide (op>=0))<;>exact⟨_,_,rfl⟩
theorem Z5(hn:4000002<=n):∀(m:Nat)(e:bV)(a:Int),m<=9223372036854775000->0<=a->a<=12->13<=a+m->(toE e).wt<=4000000->∃r,rZ n m e a=some r/\1<=r/\r<=13+m/\(r<=12->VR m e)
 | 0,_,_,_,_,_,h,_=>absurd h (by omega)
 |m+1,e,a,hm,h0,h1,h2,h3=>by
  have⟨x,b,hx⟩:=agv e.op;have hla:=abB e;show ∃r,z8 n (rZ n m) e a=some r/\_;simp[z8,hx];have bad:∃r,some (13:Int)=some r/\1<=r/\r<=13+(m+1:Nat)/\(r<=12->VR (m+1) e):=⟨13,rfl,by omega,by omega,λh=>absurd h (by omega)⟩;cases b with
  |false=>simpa[Bool.not_false,aj,ai]using bad
  |true=>
   simp;by_cases hxl:x=e.args.length;subst hxl;simp;by_cases ha:a>=12;simpa[ha,decide_true,aj]using bad;simp[ha]
   obtain⟨o,g1,g2,g3,g4⟩:=eO (step:=xB n (rZ n m) e a) (λ i (v:Int×Int)=>v.2=i/\i<=e.args.length/\0<=v.1/\v.1<=13+m/\(v.1<=11->∀y∈e.args.take i,VR m y))
    (λ o=>0<=o/\o<=13+m/\(o<=11->∀y∈e.args,VR m y)) e.args.length (λ k v h=>h.2.1) (by rintro i ⟨v2,v3⟩ ⟨hv,hi,i1,i2,i3⟩;simp at hv i1 i2 i3;subst hv;by_cases hlt:i<e.args.length;left;have hwx:=agu (getElem_mem hlt);obtain⟨r,r1,r2,r3,r4⟩:=Z5 hn m e.args[i] (a+1) (by omega) (by omega) (by omega) (by omega) (by omega);refine⟨(max v2 r,(i+1:Nat)),?_,rfl,hlt,by show 0<=max v2 r;omega,by show max v2 r<=_;omega,λh y hy=>?_⟩;simp only[xB,show decide ((i:Int)<e.args.length)=true from by simp;omega,aj,bJ hlt,ai,Cz,aM (show -9223372036854775808<=a+1 by omega) (show a+1<=9223372036854775807 by omega),r1,aX i];have h':max v2 r<=11:=h;rw[List.take_add_one,dm hlt]at hy;rw[bL]at hy;rcases hy with hy|hy;exact i3 (by omega) y hy;simp at hy;subst hy;exact r4 (by omega);right;refine⟨v2,?_,i1,i2,λh y hy=>i3 h y (by rw[take_of_length_le (by omega)];exact hy)⟩;simp only[xB,show decide ((i:Int)<e.args.length)=false from by simp;omega,au]) n 0 (0,0) ⟨rfl,Nat.zero_le _,by simp,by show 0<=_;omega,by simp⟩ (by omega)
   simp only[g1,ai];rw[aM (by omega) (by omega)];exact⟨o+1,rfl,by omega,by omega,λh=>⟨hx,g4 (by omega)⟩⟩;simpa[show (x !=(e.args.length:Nat))=true from by simpa using hxl,aj,ai]using bad
theorem Rw(hn:4000002<=n)(hn2:n<=9223372036854775000){e:bV}(h:(toE e).wt<=4000000):∃b,Hw n e=some b/\(b=true->VR n e):=by obtain⟨r,h1,h2,h3,h4⟩:=Z5 hn n e 0 hn2 (by omega) (by omega) (by omega) h;refine⟨decide (r<=12),?_,λh=>h4 (by simpa using h)⟩;simp[Hw,Cz,Pw,h1]
def aoy(tables:List cO)(s key:ByteArray):Int:=match tables.find? λt=>ByteArray.toList t.name==ByteArray.toList s with
 |some t=>aos t key
 |none=>0
def Su(ts:List cO):Prop:=ts.length<=4000000/\∀t∈ts,t.rows.length<=4000000
theorem ajd(hn:4000002<=n){a0:List gT}{ts:List cO}{a2:List fG}{a3:List cK}{a4:List jr}{a5:List iw}{a6:List dD}{a7:Int}{zs:List ByteArray}(ht:Su ts)(e:bV)(kn:List (ByteArray×Int)):jL n a0 ts a2 a3 a4 a5 a6 a7 zs e kn=some (aoy ts e.s e.key,kn):=by
 have h1:=ht.1;simp[jL];rw[Fu (λ t=>ByteArray.toList t.name==ByteArray.toList e.s) (λ x _=>rfl) (by omega) (by omega)];simp[aoy];rcases WA (λ t:cO=>ByteArray.toList t.name==ByteArray.toList e.s) ts with ⟨i,hi,h1,h2⟩|⟨h1,h2⟩;rw[h1,h2];have d:decide ((i:Int)<0)=false:=by simp
 have hr:=ht.2 _ (getElem_mem hi);simp[d,bJ hi];rw[Fv (λ x=>ByteArray.toList x.name==ByteArray.toList e.key) (λ x _=>rfl) (by omega) (by omega)];simp[aos];rcases WA (λ x:bD=>ByteArray.toList x.name==ByteArray.toList e.key) ts[i].rows with ⟨j,hj,g1,g2⟩|⟨g1,g2⟩;rw[g1,g2];have d:decide ((j:Nat)>=0)=true:=by simp
 simp[bJ hj];rw[g1,g2];rfl;rw[h1,h2];rfl
theorem fe{α:Type}{c:Bool}{x y:Option α}(hx:∃r,x=some r)(hy:∃r,y=some r):∃r,(bif c then x else y)=some r:=by cases c<;>assumption
theorem Yt(a b:Int):∃r,wo a b=some r:=by
 simp[wo];cases h:(b==0)with
 |true=>exact⟨_,rfl⟩
 |false=>
  have:(b !=0)=true:=by simp[bne,h]
  simp[this];cases (Int.tmod a b !=0)<;>cases (decide (Int.tmod a b<0)==decide (b<0))<;>exact⟨_,rfl⟩
theorem WM b:∃r,yM b=some r:=fe ⟨_,rfl⟩ ⟨_,rfl⟩
theorem qi{α β:Type}{x:Option α}{f:α->Option β}(hx:∃r,x=some r)(hf:∀r,∃s,f r=some s):∃s,x.bind f=some s:=by obtain⟨r,rfl⟩:=hx;exact hf r
theorem ad7(op a b:Int):∃r,Jo op a b=some r:=by
 have q:=Yt a b;have t:=λc=>WM c;unfold Jo
 repeat' first
  |exact⟨_,rfl⟩
  |exact q
  |exact t _
  |apply fe
  |(refine qi ?_ λr=>?_)
theorem Il(h:0<n):ct 0 n=true:=by simp[ct];omega
theorem ad8(h:1<n):ct 1 n=true:=by simp[ct];omega
theorem alj(h:2<n):ct 2 n=true:=by simp[ct];omega
theorem Nt{α:Type}{l:List α}(h:0<l.length):bz l ((0:Nat)+0)=some l[0]:=bG (i:=0) h
theorem ah0{α:Type}{l:List α}(h:1<l.length):bz l ((0:Nat)+1)=some l[1]:=bG (i:=1) h
theorem amE{α:Type}{l:List α}(h:2<l.length):bz l ((0:Nat)+2)=some l[2]:=bG (i:=2) h
theorem Yu{l:List ByteArray}{s:ByteArray}(hl:l.length<=4000000)(hn:4000002<=n):∃r,gm n l s=some r:=by
 obtain⟨o,h,_⟩:=eO (step:=nO l s) (λ i v=>v=i/\i<=l.length) (λ _=>True) l.length (λ k v h=>h.2) (by
  rintro i v ⟨rfl,hi⟩;by_cases hlt:i<l.length;simp only[nO,show decide ((i:Int)<l.length)=true from by simp;omega,aj,bJ hlt,ai,aX i];cases (ByteArray.toList s==ByteArray.toList l[i])with
  |true=>exact .inr ⟨_,rfl,trivial⟩
  |false=>exact .inl ⟨_,rfl,rfl,hlt⟩
  simp only[nO,show decide ((i:Int)<l.length)=false from by simp;omega,au];exact .inr ⟨_,rfl,trivial⟩) n 0 0 ⟨rfl,Nat.zero_le _⟩ (by omega)
 simp only[gm,q9,h];cases o with
 |inl u=>cases u;simp only[gF,ai];exact⟨_,rfl⟩
 |inr r=>simp only[kM,ai];exact⟨_,rfl⟩
theorem aje{op a:Int}(h0:(op==0)=false)(h1:(op==1)=false)(h2:(op==2)=false)(h3:(op==3)=false)(h9:(op==9)=false)(PJ:(op==15)=false)(h16:(op==16)=false)(h:yL op=some (a,true)):a=2:=by
 simp[yL,h0,h1,h2,h3,h9,PJ,h16]at h;cases hd:decide (op>=0)with
 |true=>rw[hd]at h;simp at h;exact h.1.symm
 |false=>rw[hd]at h;simp at h
section
variable {n:Nat} {a0:List gT} {ts:List cO} {a2:List fG} {a3:List cK} {a4:List jr} {a5:List iw} {a6:List dD} {a7:Int} {zs:List ByteArray}
theorem WN(hn:4000002<=n)(ht:Su ts)(hz:zs.length<=4000000):∀(m:Nat)(e:bV)(kn:List (ByteArray×Int)),VR m e->(toE e).wt<=4000000->∃v,bR n m a0 ts a2 a3 a4 a5 a6 a7 zs e kn=some (v,kn)
 | 0,_,_,h,_=>h.elim
 |m+1,e,kn,⟨ha,hr⟩,hw=>by
  have hla:=abB e;have hmx:maxLen=9223372036854775807:=rfl;show ∃v,fM n (bR n m) a0 ts a2 a3 a4 a5 a6 a7 zs e kn=some (v,kn)
  obtain⟨o,h1,l,rfl,hl⟩:=eO (step:=fE n (bR n m) a0 ts a2 a3 a4 a5 a6 a7 zs e) (λ i (v:Int×List (ByteArray×Int)×List Int)=>∃l,v=((i:Int),kn,l)/\i<=e.args.length/\l.length=i)
   (λ o=>∃l,o=(kn,l)/\l.length=e.args.length) e.args.length (λ k v ⟨_,_,h,_⟩=>h) (by
   rintro i v ⟨l,rfl,hi,hl⟩;by_cases hlt:i<e.args.length;left;have hwx:=agu (getElem_mem hlt);obtain⟨x,hx⟩:=WN hn ht hz m e.args[i] kn (hr _ (getElem_mem hlt)) (by omega);have key:∃b,((bif (e.op==(16:Int))then(bif (decide ((i:Int)>(0:Int)))then(ck (ct 0 l.length) ((bz l ((0:Nat)+0:Int)).bind λx2=>some (!((x2 !=(0:Int))==((i:Int)==1)))))else some false)else some false):Option (Bool))=some b:=(by refine fe ?_ ⟨_,rfl⟩;by_cases h0:(i:Int)>0;simp only[h0,decide_true,aj,Il (show 0<l.length by omega),Nt (show 0<l.length by omega),ai];exact⟨_,rfl⟩;simp only[h0,decide_false,au];exact⟨_,rfl⟩);obtain⟨b,hb⟩:=key;have hap:∀z:Int,bP l.length l.length (sub [z] 0 1).length 1 8=true:=λz=>(by simp[bP,sub];omega);simp only[fE,show decide ((i:Int)<e.args.length)=true from by simp;omega,aj,bJ hlt,ai,hb,Cz,hx,hap,gY,aN,aX i];cases b with
   |true|false=>exact⟨_,rfl,_,rfl,hlt,by simp[sub,hl]⟩
   right;refine⟨(kn,l),?_,l,rfl,by omega⟩;simp only[fE,show decide ((i:Int)<e.args.length)=false from by simp;omega,au,aN,aj]) n 0 (0,kn,[]) ⟨[],rfl,Nat.zero_le _,rfl⟩ (by omega)
  simp only[fM,length_nil,aN,aj,h1,ai,Cz,ajd hn ht];cases h0:(e.op==0)with
  |true=>exact⟨_,rfl⟩
  |false=>
  cases h1:(e.op==1)with
  |true=>exact⟨_,rfl⟩
  |false=>
  cases h2:(e.op==2)with
  |true=>exact⟨_,rfl⟩
  |false=>
  cases h3:(e.op==3)with
  |true=>
   have⟨r,hr⟩:=Yu (n:=n) (l:=zs) (s:=e.s) hz hn;have⟨r2,hr2⟩:=WM r;simp only[au,aj,hr,hr2,ai];exact⟨_,rfl⟩
  |false=>
  cases h9:(e.op==9)with
  |true=>
   have e9:e.op=9:=(by simpa using h9);rw[e9]at ha;have:l.length=1:=(by have h:some (1,true)=some ((e.args.length:Int),true):=ha;simp at h;omega);simp only[au,aj,Il (show 0<l.length by omega),Nt (show 0<l.length by omega),ai];exact⟨_,rfl⟩
  |false=>
  cases PJ:(e.op==15)with
  |true=>
   have e15:e.op=15:=(by simpa using PJ);rw[e15]at ha;have:l.length=1:=(by have h:some (1,true)=some ((e.args.length:Int),true):=ha;simp at h;omega);obtain⟨r2,hr2⟩:=WM (l[0]'(by omega)==0);simp only[au,aj,Il (show 0<l.length by omega),Nt (show 0<l.length by omega),ai,hr2];exact⟨_,rfl⟩
  |false=>
  cases h16:(e.op==16)with
  |true=>
   have e16:e.op=16:=(by simpa using h16);rw[e16]at ha;have:l.length=3:=(by have h:some (3,true)=some ((e.args.length:Int),true):=ha;simp at h;omega);simp only[au,aj,Il (show 0<l.length by omega),Nt (show 0<l.length by omega),ad8 (show 1<l.length by omega),ah0 (show 1<l.length by omega),alj (show 2<l.length by omega),amE (show 2<l.length by omega),ai];cases (l[0]'(by omega) !=0)<;>exact⟨_,rfl⟩
  |false=>
   have:l.length=2:=(by have:=aje h0 h1 h2 h3 h9 PJ h16 ha;omega);obtain⟨r,hr⟩:=ad7 e.op (l[0]'(by omega)) (l[1]'(by omega));simp only[au,aj,Il (show 0<l.length by omega),Nt (show 0<l.length by omega),ad8 (show 1<l.length by omega),ah0 (show 1<l.length by omega),ai,hr];exact⟨_,rfl⟩
end
theorem agx{ms:List bD}(h:ms.length<=4000000)(hn:4000002<=n):∃o,iter (jl n ms) n (0,[],[])=some o:=by obtain⟨o,h,_⟩:=eO (step:=jl n ms) (λ i (v:Int×List (ByteArray×Int)×List (ByteArray×Bool))=>∃a b,v=((i:Int),a,b)/\i<=ms.length) (λ _=>True) ms.length (λ k v ⟨_,_,_,h⟩=>h) (by rintro i v ⟨a,b,rfl,hi⟩;by_cases hlt:i<ms.length;left;simp only[jl,show decide ((i:Int)<ms.length)=true from by simp;omega,aj,bJ hlt,ai,aX i];cases (!((iq Gb.fY ms[i].name b).getD false))<;>exact⟨_,rfl,_,_,rfl,hlt⟩;right;simp only[jl,show decide ((i:Int)<ms.length)=false from by simp;omega,au];exact⟨_,rfl,trivial⟩) n 0 _ ⟨[],[],rfl,Nat.zero_le _⟩ (by omega);exact⟨o,h⟩
structure agy(p:bT):Prop where
 defs:gp p.defs
 tabs:Su p.tables
theorem abC(a b:ByteArray):Gb.fY a b=true↔a=b:=by unfold Gb.fY;rw[beq_iff_eq,ByteArray.toList_eq,ByteArray.toList_eq];exact⟨λ h=>ByteArray.ext (Array.toList_inj.1 h),λh=>by rw[h]⟩
theorem ad9{V:Type}(k k':ByteArray)(v:V)(h:k≠k'):∀l:List (ByteArray×V),iq Gb.fY k (Fh Gb.fY k' v l)=iq Gb.fY k l
 |[]=>by
  have:Gb.fY k k'=false:=by rw[Bool.eq_false_iff];exact λe=>h ((abC _ _).1 e)
  simp[Fh,iq,this]
 |p::l=>by
  have e:Gb.fY k k'=false:=by rw[Bool.eq_false_iff];exact λe=>h ((abC _ _).1 e)
  have ih:=ad9 k k' v h l;simp[Fh];cases c:Gb.fY k' p.1 with
  |true=>
   have:=(abC _ _).1 c;subst this;simp[iq,e]
  |false=>simp[iq,ih]
theorem KS{p:bT}{ms:List bD}{zs:List ByteArray}(hp:agy p)(hm:ms.length<=4000000)(hz:zs.length<=4000000)(hn:5000003<=n)(hn2:n<=9223372036854775000):∃kn out,mQ n p ms zs=some (p.defs,p.tables,p.zones,p.rules,p.caps,p.views,p.sm,p.hours,zs,kn,out)/\out.length=p.defs.length/\∀w,iter (jl n ms) n (0,[],[])=some w->∀s,(iq Gb.fY s w.2).getD false=true->iq Gb.fY s kn=iq Gb.fY s w.1:=by
 obtain⟨⟨w1,w2⟩,hs1⟩:=agx (n:=n) hm (by omega);have⟨r,hr,hrl,hrr,_⟩:=R8 (n:=n) hp.defs hn;have hl:=hp.defs.len;have hmx:maxLen=9223372036854775807:=rfl;have hmk:wC p.defs.length 8=true:=by simp[wC];omega
 simp only[mQ,hs1,ai,Int.le_refl,decide_true,Bool.true_and,show decide (0<=p.defs.length)=true from by simp,hmk,aj,hr];cases hb:(r.2.2 !=0)with
 |true=>
  simp only[aj,Int.toNat_natCast,List.length_replicate,aN];exact⟨_,_,rfl,by simp,λw hw s _=>by cases hw;rfl⟩
 |false=>
  obtain⟨o,h1,kn,out,rfl,h2,h3⟩:=eO (step:=iA n p zs w2 r) (λ i (v:Int×List (ByteArray×Int)×List Int)=>∃kn out,v=((i:Int),kn,out)/\i<=r.1.length/\out.length=p.defs.length/\∀s,(iq Gb.fY s w2).getD false=true->iq Gb.fY s kn=iq Gb.fY s w1)
   (λ o=>∃kn out,o=(kn,out)/\out.length=p.defs.length/\∀s,(iq Gb.fY s w2).getD false=true->iq Gb.fY s kn=iq Gb.fY s w1) r.1.length (λ k v ⟨_,_,_,h,_⟩=>h) (by
   rintro i v ⟨kn,out,rfl,hi,hol,hK⟩;by_cases hlt:i<r.1.length;left;have hk:=hrr r.1[i] (getElem_mem hlt);obtain⟨k,hk2⟩:=Int.eq_ofNat_of_zero_le hk.1;have hkd:k<p.defs.length:=(by omega);have hko:k<out.length:=(by omega);have hbw:=hp.defs.body (getElem_mem hkd);obtain⟨b,hb1,hb2⟩:=Rw (n:=n) (by omega) hn2 hbw;simp only[iA,show decide ((i:Int)<r.1.length)=true from by simp;omega,aj,aV hlt,bG hlt,ai,hk2,bJ hkd,hb1,Int.toNat_natCast,aV hkd,bG hko,aX i,show(((0:Nat):Int)+k).toNat=k by omega];have step2:∀(Pi:List (ByteArray×Int)) out',out'.length=p.defs.length->(∀ s,(iq Gb.fY s w2).getD false=true->iq Gb.fY s Pi=iq Gb.fY s w1)->∃HU,((bif (!((iq Gb.fY p.defs[k].name w2).getD false))then(bz out' ((0:Nat)+k:Int)).bind λx5=>some ((Fh Gb.fY p.defs[k].name x5 Pi),out')else some (Pi,out')):Option ((List (ByteArray×Int))×(List Int)))=some (HU,out')/\∀s,(iq Gb.fY s w2).getD false=true->iq Gb.fY s HU=iq Gb.fY s w1:=by
    intro Pi out' ho hK;cases hc:(iq Gb.fY p.defs[k].name w2).getD false with
    |false=>
     simp only[Bool.not_false,aj,bG (show k<out'.length by omega),ai];exact⟨_,rfl,λs hs=>by rw[ad9 _ _ _ (λ e=>by rw[e,hc]at hs;cases hs)];exact hK s hs⟩
    |true=>exact⟨_,rfl,hK⟩
   cases b with
   |true=>
    obtain⟨v,hv⟩:=WN (n:=n) (a0:=p.defs) (a2:=p.zones) (a3:=p.rules) (a4:=p.caps) (a5:=p.views) (a6:=p.sm) (a7:=p.hours) (by omega) hp.tabs hz n _ kn (hb2 rfl) hbw;simp only[gM,hv,aj,ai];obtain⟨kn2,h2,h3⟩:=step2 kn (out.set k v) (by simp[hol]) hK;rw[h2];exact⟨_,rfl,_,_,rfl,hlt,by simp[hol],h3⟩
   |false=>
    simp only[au,ai];have⟨kn2,h2,h3⟩:=step2 kn out hol hK;rw[h2];exact⟨_,rfl,_,_,rfl,hlt,hol,h3⟩
   right;simp only[iA,show decide ((i:Int)<r.1.length)=false from by simp;omega,au];exact⟨_,rfl,_,_,rfl,hol,hK⟩) n 0 (0,w1,List.replicate p.defs.length 0) ⟨_,_,rfl,Nat.zero_le _,by simp,λ_ _=>rfl⟩ (by omega)
  simp only[au,Int.toNat_natCast,h1,ai,h2,aN,aj];exact⟨_,_,rfl,h2,λw hw=>by cases hw;exact h3⟩
theorem all_eq{d:aG}(h:wI d)(hn:1001<=n):vU n d=some (b7 d):=by simp[vU,WK h hn]
theorem Yv(a b:ByteArray)(h:a.size<=4000000):∃r,strings_Contains a b=some r:=by simp only[strings_Contains,Nat.ble_eq_true_of_le h,aj];exact⟨_,rfl⟩
theorem Rx c:∃b,Ef c=some b:=fe ⟨_,rfl⟩ ⟨_,rfl⟩
theorem agz c:∃b,Pq c=some b:=fe ⟨_,rfl⟩ ⟨_,rfl⟩
theorem ajf c:∃b,zX c=some b:=qi (Rx c) λ_=>fe ⟨_,rfl⟩ (qi (agz c) λ_=>⟨_,rfl⟩)
theorem aea{s:ByteArray}{i:Nat}(h:i<s.size):∃c,QZ s i=some c:=by simp only[QZ,show decide (0<=i)=true from by simp,aj,Int.toNat_natCast];rw[getElem?_pos s i h];exact⟨_,rfl⟩
theorem ajg{s:ByteArray}{φ:(Int×Unit)->Option Bool}(h:∀c,∃b,φ (c,())=some b)(hs:s.size<=4000000)(hn:4000002<=n):∃r,MN n s φ=some r:=by
 obtain⟨o,h1,_⟩:=eO (step:=zW s φ) (λ i v=>v=i/\i<=s.size) (λ _=>True) s.size (λ k v h=>h.2) (by
  rintro i v ⟨rfl,hi⟩;by_cases hlt:i<s.size;have⟨c,hc⟩:=aea hlt;have⟨b,hb⟩:=h c;simp only[zW,show decide ((i:Int)<s.size)=true from by simp;omega,aj,hc,ai,hb,aX i];cases b with
  |true=>exact .inl ⟨_,rfl,rfl,hlt⟩
  |false=>exact .inr ⟨_,rfl,trivial⟩
  simp only[zW,show decide ((i:Int)<s.size)=false from by simp;omega,au,ai];exact .inr ⟨_,rfl,trivial⟩) n 0 0 ⟨rfl,Nat.zero_le _⟩ (by omega)
 simp only[MN,h1,ai];exact⟨_,rfl⟩
theorem ajh(s:ByteArray)(hn:4000002<=n):∃b,MO n s=some b/\(b=true->s.size<=20):=by
 simp only[MO];cases h0:(ByteArray.toList s==ByteArray.toList (⟨#[]⟩))with
 |true=>exact⟨false,by simp,λh=>(by cases h)⟩
 |false=>
  have hs:0<s.size:=by refine Nat.pos_of_ne_zero λh=>?_;have:s=⟨#[]⟩:=(by obtain⟨⟨l⟩⟩:=s;have:l.length=0:=h;rw[List.eq_nil_of_length_eq_zero this]);rw[this]at h0;simp at h0
  have⟨c,hc⟩:=aea hs;have hc':QZ s 0=some c:=hc;have⟨b,hb⟩:=Rx c;simp only[au,hc',ai,hb];cases b with
  |false=>exact⟨false,by simp,λh=>(by cases h)⟩
  |true=>
   simp only[Bool.not_true,au,ai];by_cases h20:(s.size:Int)>20;exact⟨false,by simp[h20],λh=>(by cases h)⟩;obtain⟨r,hr⟩:=ajg (n:=n) (s:=s) (φ:=λ(y1:Int×Unit)=>zX y1.1) (λ c=>ajf c) (by omega) hn;simp only[h20,decide_false,au,hr,ai];exact⟨_,rfl,λ_=>by omega⟩
theorem aji(s:ByteArray)(hn:4000002<=n):∃b,vV n s=some b:=by
 have⟨b,hb,h20⟩:=ajh (n:=n) s hn;simp only[vV,hb,ai];cases b with
 |false=>exact⟨_,rfl⟩
 |true=>
  have hs:=h20 rfl;have hmx:maxLen=9223372036854775807:=rfl;have c1:UU (⟨#[32]⟩) s=true:=by have:(⟨#[32]⟩:ByteArray).size=1:=rfl;simp[UU];omega
  have c2:UU ((⟨#[32]⟩)++s) (⟨#[32]⟩)=true:=by have h1:(⟨#[32]⟩:ByteArray).size=1:=rfl;simp[UU];omega
  simp only[aj,c1,c2];refine qi (Yv _ _ (Nat.le_of_ble_eq_true ?_)) λ_=>⟨_,rfl⟩
  kernel_rfl
theorem Z6(a b:yf):∃r,tq a b=some r:=by unfold tq;rw[uh];exact fe (fe ⟨_,rfl⟩ ⟨_,rfl⟩) ⟨_,rfl⟩
theorem fD{l:List ay}{φ:(ay×Unit)->Option Bool}(p:ay->Bool)(h:∀x∈l,φ (x,())=some (p x))(hl:l.length<1099511627776)(hn:l.length<n):gG n l φ=some (l.any p):=by have:qx n l φ=some (AA p l):=iY p h hl hn;simp[gG,this,wZ]
theorem xL{l:List ay}{φ:(ay×Unit)->Option Bool}(h:∀x∈l,∃b,φ (x,())=some b)(hl:l.length<1099511627776)(hn:l.length<n):gG n l φ=some (l.any λx=>(φ (x,())).getD false):=
 fD _ (λ x hx=>by have⟨b,hb⟩:=h x hx;rw[hb];rfl) hl hn
def WO(d:aG):Prop:=∀p∈d.phases,p.gives.length<=1000
theorem agA{l:List ay}(hl:l.length<=1000000)(hn:4000002<=n):iter (gu n l) n 0=some (.inr false)\/(iter (gu n l) n 0=some (.inl ())/\∀v∈l,okV v=true):=by
 obtain⟨o,h1,h2⟩:=eO (step:=gu n l) (λ i v=>v=i/\i<=l.length/\∀x∈l.take i,okV x=true) (λ o=>o=.inr false\/(o=.inl ()/\∀v∈l,okV v=true)) l.length (λ k v h=>h.2.1) (by
  rintro i v ⟨rfl,hi,hall⟩;by_cases hlt:i<l.length;simp only[gu,show decide ((i:Int)<l.length)=true from by simp;omega,aj,aV hlt,bG hlt,ai,lq,aX i];cases hv:okV l[i]with
  |false=>exact .inr ⟨_,by simp only[Bool.not_false,aj,ai];rfl,.inl rfl⟩
  |true=>
   have hsub:(sub l 0 i).length=i:=(by simp[sub];omega);have hc:=xL (n:=n) (l:=sub l 0 i) (φ:=λ(y1:ay×Unit)=>gZ y1.1 l[i]) (λ x _=>qi (Z6 _ _) λ_=>⟨_,rfl⟩) (by omega) (by omega);simp[uS (show 0<=0 by omega) (show (0:Int)<=i by omega) (show (i:Int)<=l.length by omega),pz hsub,hc];cases ((sub l 0 i).any λx=>((λ (y1:ay×Unit)=>gZ y1.1 l[i]) (x,())).getD false)with
   |true=>exact .inr ⟨_,rfl,.inl rfl⟩
   |false=>
    refine .inl ⟨_,rfl,rfl,hlt,λx hx=>?_⟩;rw[List.take_add_one,dm hlt,bL]at hx;rcases hx with hx|hx;exact hall x hx;simp at hx;subst hx;exact hv
  refine .inr ⟨.inl (),?_,.inr ⟨rfl,λv hv=>hall v (by rw[take_of_length_le (by omega)];exact hv)⟩⟩;simp only[gu,show decide ((i:Int)<l.length)=false from by simp;omega,au]) n 0 0 ⟨rfl,Nat.zero_le _,by simp⟩ (by omega)
 rcases h2 with rfl|⟨rfl,h2⟩;exact .inl h1;exact .inr ⟨h1,h2⟩
theorem agB{p:eF}(hp:p.gives.length<=1000)(hn:4000002<=n):iter (lN n p) n (0,[])=some (.inl ())\/iter (lN n p) n (0,[])=some (.inr (.inr (.inr false))):=by
 obtain⟨o,h1,h2⟩:=eO (step:=lN n p) (λ i (v:Int×List (ByteArray×Bool))=>∃m,v=((i:Int),m)/\i<=p.gives.length) (λ o=>o=.inl ()\/o=.inr (.inr (.inr false))) p.gives.length (λ k v ⟨_,_,h⟩=>h) (by
  rintro i v ⟨m,rfl,hi⟩;by_cases hlt:i<p.gives.length;have key:∃b,((bif ((iq Gb.fY p.gives[i].name m).getD false)then some true else(vV n p.gives[i].name).bind λr4=>(bif (!r4)then some true else(bif (decide (p.gives[i].n<0))then some true else some (decide (p.gives[i].n>1073741824))))):Option (Bool))=some b:=
   fe ⟨_,rfl⟩ (qi (aji _ hn) λ_=>fe ⟨_,rfl⟩ (fe ⟨_,rfl⟩ ⟨_,rfl⟩))
  obtain⟨b,hb⟩:=key;simp only[lN,show decide ((i:Int)<p.gives.length)=true from by simp;omega,aj,bJ hlt,ai,hb,aX i];cases b with
  |true=>exact .inr ⟨_,rfl,.inr rfl⟩
  |false=>exact .inl ⟨_,rfl,_,rfl,hlt⟩
  simp only[lN,show decide ((i:Int)<p.gives.length)=false from by simp;omega,au];exact .inr ⟨_,rfl,.inl rfl⟩) n 0 _ ⟨[],rfl,Nat.zero_le _⟩ (by omega)
 rcases h2 with rfl|rfl;exact .inl h1;exact .inr h1
theorem WQ{d:aG}(hd:wI d)(hg:WO d)(hn:4000002<=n):iter (gB n d) n 0=some (.inl ())\/iter (gB n d) n 0=some (.inr false):=by
 have hd1:=hd.1;obtain⟨o,h1,h2⟩:=eO (step:=gB n d) (λ i v=>v=i/\i<=d.phases.length) (λ o=>o=.inl ()\/o=.inr false) d.phases.length (λ k v h=>h.2) (by
  rintro i v ⟨rfl,hi⟩;by_cases hlt:i<d.phases.length;simp only[gB,show decide ((i:Int)<d.phases.length)=true from by simp;omega,aj,bJ hlt,ai,aX i];rcases agB (n:=n) (hg _ (getElem_mem hlt)) hn with h|h;simp[h];cases decide ((d.phases[i].gives.length:Int)>30)with
  |true=>exact .inr ⟨_,rfl,.inr rfl⟩
  |false=>exact .inl ⟨_,rfl,rfl,hlt⟩
  simp only[h,kM];exact .inr ⟨_,rfl,.inr rfl⟩;simp only[gB,show decide ((i:Int)<d.phases.length)=false from by simp;omega,au];exact .inr ⟨_,rfl,.inl rfl⟩) n 0 0 ⟨rfl,Nat.zero_le _⟩ (by omega)
 rcases h2 with rfl|rfl;exact .inl h1;exact .inr h1
theorem qj{d:aG}(hd:wI d):(b7 d).length<=1000000:=by have:=ev hd.2;have:=hd.1;unfold b7;omega
theorem TW{d:aG}(hd:wI d)(hg:WO d)(hn:4000002<=n):∃b,iQ n d=some b/\(b=true->∀v∈b7 d,okV v=true):=by
 simp only[iQ,all_eq hd (show 1001<=n by omega),ai];have key:∀c1 c2 c3 c4 c5 c6:Bool,∃b,((bif c1 then some true else(bif c2 then some true else(bif c3 then some true else(bif c4 then some true else(bif c5 then some true else some c6))))):Option Bool)=some b:=by intro c1 c2 c3 c4 c5 c6;exact fe ⟨_,rfl⟩ (fe ⟨_,rfl⟩ (fe ⟨_,rfl⟩ (fe ⟨_,rfl⟩ (fe ⟨_,rfl⟩ ⟨_,rfl⟩))))
 have⟨b,hb⟩:=key (decide (d.lot<0)) (decide (d.lot>1073741824)) (decide ((d.phases.length:Int)<1)) (decide ((d.phases.length:Int)>8)) (decide (((b7 d).length:Int)<1)) (decide (((b7 d).length:Int)>40));rw[hb];cases b with
 |true=>exact⟨false,rfl,λh=>(by cases h)⟩
 |false=>
  simp only[ai,au];rcases agA (n:=n) (qj hd) hn with h|⟨h,hall⟩;simp only[h,kM];exact⟨false,rfl,λh=>(by cases h)⟩;simp only[h,gF];rcases WQ (n:=n) hd hg hn with h2|h2;simp only[h2,gF];exact⟨true,rfl,λ_=>hall⟩;simp only[h2,kM];exact⟨false,rfl,λh=>(by cases h)⟩
theorem EI{l:List jr}{φ:(jr×Unit)->Option Bool}(p:jr->Bool)(h:∀x∈l,φ (x,())=some (p x))(hl:l.length<1099511627776)(hn:l.length<n):mZ n l φ=some (l.any p):=by have:uW n l φ=some (AA p l):=iY p h hl hn;simp[mZ,this,wZ]
theorem alk{lot:iK}{l:List ay}(ha:lot.area.length<=900)(hv:∀v∈l,okV v=true)(hl:l.length<=1000000)(hn:4000002<=n):iter (dZ n lot l) n 0=some (.inl ())\/iter (dZ n lot l) n 0=some (.inr false):=by
 obtain⟨o,h1,h2⟩:=eO (step:=dZ n lot l) (λ i v=>v=i/\i<=l.length) (λ o=>o=.inl ()\/o=.inr false) l.length (λ k v h=>h.2) (by
  rintro i v ⟨rfl,hi⟩;by_cases hlt:i<l.length;have hb:=uj (hv _ (getElem_mem hlt));have hcl:=Nl (keep:=λp q=>p&&q) lot.area [bU l[i]];have hc:=Nk (n:=n) (a:=lot.area) (b:=[bU l[i]]) (by omega) (by simp) (by omega) (by simp;omega) (by omega);have hA:=KR (n:=n) (a:=(qR (λ p q=>p&&q) lot.area [bU l[i]]).1) (by omega) (by omega);have hr:=xZ hb;simp[bU]at hc hA hr;simp only[dZ,show decide ((i:Int)<l.length)=true from by simp;omega,aj,aV hlt,bG hlt,ai,show ∀r:ax,sub [r] 0 1=[r]from λ_=>rfl,List.length_singleton,aN,hc,hA,hr,aX i];have key:∀c x:Bool,∃b,((bif c then some true else some x):Option Bool)=some b:=λc x=>fe ⟨_,rfl⟩ ⟨_,rfl⟩;obtain⟨b,hb2⟩:=key ((qR (λ p q=>p&&q) lot.area [⟨l[i].bj,l[i].bp,l[i].be,l[i].bo⟩]).2 !=0) (decide ((bif cH (qR (λ p q=>p&&q) lot.area [⟨l[i].bj,l[i].bp,l[i].be,l[i].bo⟩]).1 then KQ (qR (λ p q=>p&&q) lot.area [⟨l[i].bj,l[i].bp,l[i].be,l[i].bo⟩]).1 else 0)<N1 ⟨l[i].bj,l[i].bp,l[i].be,l[i].bo⟩));rw[hb2];cases b with
  |true=>exact .inr ⟨_,rfl,.inr rfl⟩
  |false=>exact .inl ⟨_,rfl,rfl,hlt⟩
  simp only[dZ,show decide ((i:Int)<l.length)=false from by simp;omega,au];exact .inr ⟨_,rfl,.inl rfl⟩) n 0 0 ⟨rfl,Nat.zero_le _⟩ (by omega)
 rcases h2 with rfl|rfl;exact .inl h1;exact .inr h1
theorem alm{p:bT}{ph:eF}(hc:p.caps.length<=4000000)(hp:ph.gives.length<=1000)(hn:4000002<=n):iter (kN n p ph) n 0=some (.inl ())\/iter (kN n p ph) n 0=some (.inr (.inr (.inr false))):=by
 obtain⟨o,h1,h2⟩:=eO (step:=kN n p ph) (λ i v=>v=i/\i<=ph.gives.length) (λ o=>o=.inl ()\/o=.inr (.inr (.inr false))) ph.gives.length (λ k v h=>h.2) (by
  rintro i v ⟨rfl,hi⟩;by_cases hlt:i<ph.gives.length;simp only[kN,show decide ((i:Int)<ph.gives.length)=true from by simp;omega,aj,bJ hlt,ai,EI (n:=n) (l:=p.caps) (φ:=λ(y1:jr×Unit)=>uV y1.1 ph.gives[i]) (λ c=>ByteArray.toList c.name==ByteArray.toList ph.gives[i].name) (λ _ _=>rfl) (by omega) (by omega),aX i];cases (p.caps.any λc=>ByteArray.toList c.name==ByteArray.toList ph.gives[i].name)with
  |false=>exact .inr ⟨_,rfl,.inr rfl⟩
  |true=>exact .inl ⟨_,rfl,rfl,hlt⟩
  simp only[kN,show decide ((i:Int)<ph.gives.length)=false from by simp;omega,au];exact .inr ⟨_,rfl,.inl rfl⟩) n 0 0 ⟨rfl,Nat.zero_le _⟩ (by omega)
 rcases h2 with rfl|rfl;exact .inl h1;exact .inr h1
theorem aln{p:bT}{d:aG}(hc:p.caps.length<=4000000)(hd:wI d)(hg:WO d)(hn:4000002<=n):iter (gH n p d) n 0=some (.inl ())\/iter (gH n p d) n 0=some (.inr false):=by have hd1:=hd.1;obtain⟨o,h1,h2⟩:=eO (step:=gH n p d) (λ i v=>v=i/\i<=d.phases.length) (λ o=>o=.inl ()\/o=.inr false) d.phases.length (λ k v h=>h.2) (by rintro i v ⟨rfl,hi⟩;by_cases hlt:i<d.phases.length;simp only[gH,show decide ((i:Int)<d.phases.length)=true from by simp;omega,aj,bJ hlt,ai,aX i];rcases alm (n:=n) hc (hg _ (getElem_mem hlt)) hn with h|h;simp only[h,gF];exact .inl ⟨_,rfl,rfl,hlt⟩;simp only[h,kM];exact .inr ⟨_,rfl,.inr rfl⟩;simp only[gH,show decide ((i:Int)<d.phases.length)=false from by simp;omega,au];exact .inr ⟨_,rfl,.inl rfl⟩) n 0 0 ⟨rfl,Nat.zero_le _⟩ (by omega);rcases h2 with rfl|rfl;exact .inl h1;exact .inr h1
theorem Z7{p:bT}{lot:iK}{d:aG}(hc:p.caps.length<=4000000)(ha:lot.area.length<=900)(hd:wI d)(hg:WO d)(hn:4000002<=n):∃b,eG n p lot d=some b/\(b=true->∀v∈b7 d,okV v=true):=by
 have⟨b,hb,hv⟩:=TW (n:=n) hd hg hn;simp only[eG,hb,ai];cases b with
 |false=>exact⟨false,by simp,λh=>(by cases h)⟩
 |true=>
  simp only[Bool.not_true,au,kK (n:=n) (l:=lot.area) (by omega) (by omega) (by omega),ai];cases (lot.id !=d.lot)with
  |true=>exact⟨false,by simp,λh=>(by cases h)⟩
  |false=>
   cases cH lot.area with
   |false=>exact⟨false,by simp,λh=>(by cases h)⟩
   |true=>
    simp only[Bool.not_true,au,ai,all_eq hd (show 1001<=n by omega)];rcases alk (n:=n) ha (hv rfl) (qj hd) hn with h|h;simp only[h,gF];rcases aln (n:=n) hc hd hg hn with h2|h2;simp only[h2,gF];exact⟨true,rfl,λ_=>hv rfl⟩;simp only[h2,kM];exact⟨false,rfl,λh=>(by cases h)⟩;simp only[h,kM];exact⟨false,rfl,λh=>(by cases h)⟩
theorem amF{p:bT}{ms:List bD}{zs:List ByteArray}{e:bV}(hp:agy p)(hm:ms.length<=4000000)(hz:zs.length<=4000000)(he:(toE e).wt<=4000000)(hn:5000003<=n)(hn2:n<=9223372036854775000):∃v,Ac n p ms zs e=some v:=by
 obtain⟨b,hb,hv⟩:=Rw (n:=n) (by omega) hn2 he;simp[Ac,Cz,hb];cases b with
 |false=>exact⟨_,rfl⟩
 |true=>
  have⟨kn,out,h1,_⟩:=KS (n:=n) hp hm hz hn hn2;obtain⟨v,h2⟩:=WN (n:=n) (a0:=p.defs) (a2:=p.zones) (a3:=p.rules) (a4:=p.caps) (a5:=p.views) (a6:=p.sm) (a7:=p.hours) (by omega) hp.tabs hz n e kn (hv rfl) he;simp only[Bool.not_true,au,h1,ai,gM,h2];exact⟨_,rfl⟩
section
variable {n:Nat} {d:List gT} {ts:List cO} {z z':List fG} {r r':List cK} {c c':List jr} {v v':List iw} {su sn:List dD} {h h':Int} {zs:List ByteArray}
theorem Im:∀(m:Nat)(e:bV)(kn:List (ByteArray×Int)),bR n m d ts z r c v su h zs e kn=bR n m d ts z' r' c' v' sn h' zs e kn
 | 0,_,_=>rfl
 |m+1,e,kn=>by
  have ih:=Im m;have hs:fE n (bR n m) d ts z r c v su h zs e=fE n (bR n m) d ts z' r' c' v' sn h' zs e:=by funext ⟨v1,v2,v3⟩;simp only[fE,ih]
  have hr:∀w,jL n d ts z r c v su h zs e w=jL n d ts z' r' c' v' sn h' zs e w:=λ_=>rfl;show fM n (bR n m) d ts z r c v su h zs e kn=fM n (bR n m) d ts z' r' c' v' sn h' zs e kn;simp only[fM,hs,Cz,hr]
theorem agC{ms:List bD}:(mQ n (bT.mk d ts z r c v su h) ms zs).map (λ q=>q.2.2.2.2.2.2.2.2.2)=(mQ n (bT.mk d ts z' r' c' v' sn h') ms zs).map (λ q=>q.2.2.2.2.2.2.2.2.2):=by
 have hs:∀w2 r1,iA n (bT.mk d ts z r c v su h) zs w2 r1=iA n (bT.mk d ts z' r' c' v' sn h') zs w2 r1:=by intro w2 r1;funext ⟨v6,v7,v8⟩;have hv:∀e kn,gM n d ts z r c v su h zs e kn=gM n d ts z' r' c' v' sn h' zs e kn:=λe kn=>Im n e kn;simp only[iA,hv]
 have ho:nS n (bT.mk d ts z r c v su h)=nS n (bT.mk d ts z' r' c' v' sn h'):=rfl;simp only[mQ,hs,ho];cases iter (jl n ms) n (0,([]:(List (ByteArray×Int))),([]:(List (ByteArray×Bool))))with
 |none=>rfl
 |some w=>
  obtain⟨w1,w2⟩:=w;simp only[ai];cases (decide ((d.length:Int)<=d.length)&&(decide (0<=(d.length:Int))&&wC d.length 8))with
  |false=>rfl
  |true=>
   simp only[aj];cases nS n (bT.mk d ts z' r' c' v' sn h')with
   |none=>rfl
   |some r1=>
    simp only[ai];cases (r1.2.2 !=0)with
    |true=>
     simp only[aj];cases aE ((d.length:Int).toNat) (List.replicate (d.length:Int).toNat (0:Int)).length<;>rfl
    |false=>
     simp only[au];cases iter (iA n (bT.mk d ts z' r' c' v' sn h') zs w2 r1) n (0,w1,(List.replicate (d.length:Int).toNat 0))with
     |none=>rfl
     |some q=>
      obtain⟨w3,w4⟩:=q;simp only[ai];cases aE ((d.length:Int).toNat) w4.length<;>rfl
theorem agD{ms:List bD}{e:bV}(hp:gp d)(ht:Su ts)(hm:ms.length<=4000000)(hz:zs.length<=4000000)(hn:5000003<=n)(hn2:n<=9223372036854775000):Ac n (bT.mk d ts z r c v su h) ms zs e=Ac n (bT.mk d ts z' r' c' v' sn h') ms zs e:=by have⟨kn,out,h1,_⟩:=KS (n:=n) (p:=bT.mk d ts z r c v su h) ⟨hp,ht⟩ hm hz hn hn2;have⟨kn2,out2,h2,_⟩:=KS (n:=n) (p:=bT.mk d ts z' r' c' v' sn h') ⟨hp,ht⟩ hm hz hn hn2;have h3:=agC (n:=n) (d:=d) (ts:=ts) (z:=z) (z':=z') (r:=r) (r':=r') (c:=c) (c':=c') (v:=v) (v':=v') (su:=su) (sn:=sn) (h:=h) (h':=h') (zs:=zs) (ms:=ms);rw[h1,h2]at h3;simp only[Option.map_some,bM,Prod.mk.injEq]at h3;obtain⟨rfl,rfl⟩:=h3;simp only[Ac,h1,h2,ai,gM,Im (z:=z) (z':=z') (r:=r) (r':=r') (c:=c) (c':=c') (v:=v) (v':=v') (su:=su) (sn:=sn) (h:=h) (h':=h')]
end
theorem R9{b:ax}{l:List d9}{s:List gU}(ha:∀c∈s,c.area.length<=200)(hs:s.length<=1000)(hl:l.length<=1000)(hn:2000<=n):
 xG n b l s=some (EC b l&&(ED s&&!(s.any λc=>decide (PP b l c.area<c.z1)))):=by
 unfold xG;rw[WH b l hl hn];simp;cases hv:EC b l with
 |false=>simp
 |true=>
  have⟨v1,v2⟩:=(adT b l).1 hv;simp[Ru (n:=n) (s:=s) (λ x hx=>by have:=ha x hx;omega) (by omega)];cases hr:ED s with
  |false=>simp
  |true=>
   have⟨_,sok,_⟩:=(WJ s).1 hr;simp;rw[sF (λ c=>decide (PP b l c.area<c.z1)) (λ c hc=>by have:=ha c hc;show rz n c b l=_;unfold rz;rw[R6 v1 v2 (uf (sok c hc).rt).1 (by omega) hl hn];rfl) (by omega) (by omega)];simp
def uZ(v:ay):List gU:=[⟨v.b9,v.ch,[bU v]⟩]
theorem aeb(v:ay):xC v=some (uZ v):=rfl
def TY(b:ax)(p:d9)(v:ay):Bool:=EC b [p]&&(ED (uZ v)&&!((uZ v).any λc=>decide (PP b [p] c.area<c.z1)))
def WR(r:cK):d9:=d9.mk r.gS r.hZ r.jj r.jn
theorem abD(v:ay)(b:ax)(r:cK)(hn:2000<=n):kF n v b r=some (!TY b (WR r) v):=by have h:=R9 (n:=n) (b:=b) (l:=[WR r]) (s:=uZ v) (by simp[uZ]) (by simp[uZ]) (by simp) hn;unfold WR at h;have hl:(uZ v).length=1:=rfl;simp[kF,aeb,show ∀x:d9,sub [x] 0 1=[x]from λ_=>rfl,h,TY];rfl
def SU(r:cK)(v:ay):Bool:=bits .and .i64 r.uses (i64.wrap (1*2 ^ v.use.toNat))==0
theorem abE{v:ay}(h:okV v=true)(r:cK):kG v r=some (SU r v):=by
 have hu:0<=v.use/\v.use<6:=by simp[okV]at h;omega
 have hb:i64.bits=64:=rfl;simp[kG,SU,show(decide (0<=v.use)&&decide (v.use<=i64.bits))=true from by simp;omega]
def S7(lot:Int)(r:cK)(v:ay)(b:iP):Bool:=(dS b (mI.mk [] [] [] [] [] [] [] 0 [] [] [] [] [] 0 0 [] [] lot [] [] []) v r).getD false
theorem aec{b:iP}{s:mI}{v:ay}{r:cK}:dS b s v r=some (S7 s.dC r v b):=by
 have key:∃x,dS b (mI.mk [] [] [] [] [] [] [] 0 [] [] [] [] [] 0 0 [] [] s.dC [] [] []) v r=some x:=by simp only[dS,jS,ak5,ai];refine qi (fe ⟨_,rfl⟩ (fe ⟨_,rfl⟩ (fe ⟨_,rfl⟩ ⟨_,rfl⟩))) λ_=>fe ⟨_,rfl⟩ (qi (fe (fe ⟨_,rfl⟩ (fe ⟨_,rfl⟩ ⟨_,rfl⟩)) (fe ⟨_,rfl⟩ ⟨_,rfl⟩)) λ_=>fe ⟨_,rfl⟩ ⟨_,rfl⟩)
 have e:dS b s v r=dS b (mI.mk [] [] [] [] [] [] [] 0 [] [] [] [] [] 0 0 [] [] s.dC [] [] []) v r:=rfl;obtain⟨x,hx⟩:=key;rw[e,S7,hx];rfl
theorem zn{l:List iP}{φ:(iP×Unit)->Option Bool}(p:iP->Bool)(h:∀x∈l,φ (x,())=some (p x))(hl:l.length<1099511627776)(hn:l.length<n):kH n l φ=some (l.any p):=by have:qE n l φ=some (AA p l):=iY p h hl hn;simp[kH,this,wZ]
def S6(built:List iP)(lot:Int)(r:cK)(v:ay):Bool:=built.any (S7 lot r v)
theorem abH{s:mI}{v:ay}{r:cK}(hb:s.fL.length<=1000)(hn:2000<=n):kI n v s r=some (S6 s.fL s.dC r v):=by simp[kI,rO,zn (n:=n) (l:=s.fL) (φ:=λ(y1:iP×Unit)=>dS y1.1 s v r) (S7 s.dC r v) (λ x _=>aec) (by omega) (by omega),S6]
def li(r:cK):bV:=bV.mk r.ky r.m5 r.mT r.i9 r.fR
def lj(t:fP):bT:=bT.mk t.cm t.cd t.ca [] t.co t.ci t.cD t.cj
structure Yw(t:fP):Prop where
 lots:∀l∈t.land,E0 l
 land:t.land.length<=1000
 eas:t.cw.length<=900/\∀e∈t.cw,e.area.length<=900
 built:t.built.length<=1000
 zones:t.ca.length<=100
 caps:t.co.length<=4000000
 rules:t.bm.length<=100
 rule:∀r∈t.bm,WC r/\(toE (li r)).wt<=4000000
 plan:agy (lj t)
def WS(d:aG):Prop:=wI d/\WO d
def yl(n:Nat):Prop:=5000003<=n/\n<=9223372036854775000
def u6(t:fP)(lot:iK):List ByteArray:=GE t.ca lot.area
def sB(t:fP)(lot:iK)(d:aG):mI:=mI.mk t.cm t.cd t.ca t.bm t.co t.ci t.cD t.cj t.land t.cw t.windows t.built t.base lot.id lot.owner lot.area lot.from_ d.lot d.phases (b7 d) (u6 t lot)
theorem WT{d:aG}(h:wI d)(hn:1001<=n):tJ n d=some (b7 d):=by obtain⟨h1,h2⟩:=h;unfold tJ;have key:=Ju (step:=oP d) (λ i=>(i,(d.phases.take i).flatMap (·.az))) (s:=(0,[])) d.phases.length (b7 d) rfl (λ i hi=>by have hl:=ev (l:=d.phases.take i) λp hp=>h2 p (List.mem_of_mem_take hp);rw[length_take]at hl;have hv:=h2 _ (getElem_mem hi);generalize hL:(d.phases.take i).flatMap (·.az)=L at hl;have hap:bP L.length L.length d.phases[i].az.length d.phases[i].az.length 72=true:=eY (by omega) (by simp[maxLen];omega);simp only[oP,dV hi,aj,bJ hi,ai,hap,gY,aN,aX i];rw[kL hi,List.flatMap_append,hL];simp) (by simp[oP,b7]) n (by omega);have hz:aE 0 ([]:List ay).length=true:=rfl;simp[key]
def SR(n:Nat)(t:fP)(d:aG):Bool:=(eG n (lj t) (mq t.land d.lot).1 d).getD false
def wJ(n:Nat)(t:fP)(d:aG):Int:=bif(mq t.land d.lot).2 then(bif SR n t d then 0 else 1)else 4
def aoz:mI:=mI.mk ([]) ([]) ([]) ([]) ([]) ([]) ([]) 0 ([]) ([]) ([]) ([]) ([]) 0 0 ([]) ([]) 0 ([]) ([]) ([])
theorem look_eq{t:fP}{d:aG}(ht:Yw t)(hd:WS d)(hn:yl n):zY n t d=some (bif wJ n t d==0 then sB t (mq t.land d.lot).1 d else aoz,wJ n t d)/\(wJ n t d=0->∀v∈b7 d,okV v=true):=by
 obtain⟨hn1,hn2⟩:=hn;have hl:=ht.land;have e1:ML n t.land d.lot=some (mq t.land d.lot):=aja ht.lots (by omega) (by omega);have hw:=Z0 ht.lots d.lot;obtain⟨b,hb,hv⟩:=Z7 (n:=n) (p:=lj t) (lot:=(mq t.land d.lot).1) (d:=d) ht.caps hw.1 hd.1 hd.2 (by omega);have e2:eG n (bT.mk t.cm t.cd t.ca t.bm t.co t.ci t.cD t.cj) (mq t.land d.lot).1 d=some b:=hb;have e3:Cq n (bT.mk t.cm t.cd t.ca t.bm t.co t.ci t.cD t.cj) (mq t.land d.lot).1.area=some (GE t.ca (mq t.land d.lot).1.area):=abu _ _ ht.zones hw.1 (by omega);have e4:SR n t d=b:=by unfold SR;rw[hb];rfl
 simp[zY,e1,e2,e3,WT hd.1 (show 1001<=n by omega),wJ,e4];cases (mq t.land d.lot).2 with
 |false=>exact⟨rfl,λh=>absurd (show (4:Int)=0 from h) (by decide)⟩
 |true=>
  cases b with
  |false=>exact⟨rfl,λh=>absurd (show (1:Int)=0 from h) (by decide)⟩
  |true=>exact⟨rfl,λ_=>hv rfl⟩
def ana(n:Nat)(t:fP)(lot:iK)(d:aG)(r:cK):Bool:=((jk n (lj t) lot d).bind λms=>Ac n (lj t) ms (u6 t lot) (li r)).getD 1==0
def G0(n:Nat)(t:fP)(lot:iK)(d:aG)(r:cK):Bool:=
 bif r.kind==0 then ana n t lot d r else bif r.kind==1 then(b7 d).any (λ v=>!TY (TU lot.area).1 (WR r) v)else bif r.kind==2 then(b7 d).any (SU r)else bif r.kind==3 then(b7 d).any (S6 t.built d.lot r)else false
theorem WU{t:fP}(ht:Yw t)(lot:iK):(u6 t lot).length<=100:=Nat.le_trans (amx _ _) ht.zones
theorem ajk{t:fP}{lot:iK}{d:aG}{r:cK}(ht:Yw t)(hl:lot.area.length<=900)(hd:WS d)(hv:∀v∈b7 d,okV v=true)(hr:(toE (li r)).wt<=4000000)(hn:yl n):nk n (sB t lot d) r=some (G0 n t lot d r):=by
 obtain⟨hn1,hn2⟩:=hn;have hvl:=qj hd.1;have hz:=WU ht lot;simp only[nk,iB,G0];cases (r.kind==0)with
 |true=>
  have htb:=ht.plan.tabs;obtain⟨e1,e2,e3,e4,e5,e6,e7,e8,hOf⟩:=aox (n:=n) (p:=lj t) (lot:=lot) (d:=d) ⟨by have:=htb.1;omega,by have:=htb.1;omega,λx hx=>by have:=htb.2 x hx;omega⟩ hl hd.1 (by omega);have h1:=hOf t.bm;have h2:=hOf [];have h2':jk n (lj t) lot d=_:=h2;have h1':jk n (bT.mk t.cm t.cd t.ca t.bm t.co t.ci t.cD t.cj) (iK.mk lot.id lot.owner lot.area lot.from_) (aG.mk d.lot d.phases)=_:=h1;obtain⟨v,hE⟩:=amF (n:=n) (p:=lj t) (ms:=[⟨⟨#[97,114,101,97]⟩,e1⟩,⟨⟨#[99,111,118,101,114]⟩,e2⟩,⟨⟨#[102,108,111,111,114]⟩,e3⟩,⟨⟨#[102,108,111,111,114,115]⟩,e4⟩,⟨⟨#[104,101,105,103,104,116]⟩,e5⟩,⟨⟨#[104,111,109,101,115]⟩,e6⟩,⟨⟨#[114,117,110,111,102,102]⟩,e7⟩,⟨Cy,Cx (qV lot) (gJ d)⟩,⟨⟨#[116,114,97,102,102,105,99]⟩,e8⟩]) (zs:=u6 t lot) (e:=li r) ht.plan (by simp) (by omega) hr hn1 hn2;have hE':=(agD (n:=n) (d:=t.cm) (ts:=t.cd) (z:=t.ca) (r:=t.bm) (r':=[]) (c:=t.co) (v:=t.ci) (su:=t.cD) (h:=t.cj) (zs:=u6 t lot) (ms:=[⟨⟨#[97,114,101,97]⟩,e1⟩,⟨⟨#[99,111,118,101,114]⟩,e2⟩,⟨⟨#[102,108,111,111,114]⟩,e3⟩,⟨⟨#[102,108,111,111,114,115]⟩,e4⟩,⟨⟨#[104,101,105,103,104,116]⟩,e5⟩,⟨⟨#[104,111,109,101,115]⟩,e6⟩,⟨⟨#[114,117,110,111,102,102]⟩,e7⟩,⟨Cy,Cx (qV lot) (gJ d)⟩,⟨⟨#[116,114,97,102,102,105,99]⟩,e8⟩]) (e:=li r) ht.plan.defs ht.plan.tabs (by simp) (by omega) hn1 hn2).trans hE;unfold li at hE';simp[sB,h1',hE',ana,h2',hE]
 |false=>
  cases (r.kind==1)with
  |true=>
   simp only[aj,au,show(sB t lot d).kh=lot.area from rfl,show(sB t lot d).az=b7 d from rfl,abw (n:=n) lot.area hl (by omega),ai];rw[fD (λ v=>!TY (TU lot.area).1 (WR r) v) (λ v _=>abD v _ r (by omega)) (by omega) (by omega)];rfl
  |false=>
   cases (r.kind==2)with
   |true=>
    simp only[aj,au,show(sB t lot d).az=b7 d from rfl];rw[fD (SU r) (λ v hm=>abE (hv v hm) r) (by omega) (by omega)];rfl
   |false=>
    cases (r.kind==3)with
    |true=>
     simp only[aj,au,show(sB t lot d).az=b7 d from rfl];rw[fD (S6 t.built d.lot r) (λ v _=>abH (s:=sB t lot d) ht.built (by omega)) (by omega) (by omega)];rfl
    |false=>rfl
def addN(out:List ByteArray)(name:ByteArray)(bad:Bool):List ByteArray:=bif bad&&!(out.any (fY name))then out++[name]else out
theorem aed out (name:ByteArray) bad:(addN out name bad).length<=out.length+1:=by unfold addN;cases (bad&&!(out.any (fY name)))<;>simp
theorem aee{name:ByteArray}{bad:Bool}{out:List ByteArray}(hl:out.length<=1000)(hn:2000<=n):jX n name bad out=some (addN out name bad):=by
 have hmx:maxLen=9223372036854775807:=rfl;have hap:bP out.length out.length (sub [name] 0 1).length 1 16=true:=by simp[bP,sub];omega
 simp[jX,uJ (n:=n) (l:=out) (a:=name) (by omega) (by omega),addN,hap];cases bad with
 |false=>rfl
 |true=>cases (out.any (fY name))<;>rfl
def alo(t:fP)(d:aG):Bool:=(b7 d).any λv=>!N0 t.cw d.lot (uZ v)
def ajl:ByteArray:=⟨#[101,97,115,101,109,101,110,116]⟩
def PY(n:Nat)(t:fP)(lot:iK)(d:aG)(l:List cK):List ByteArray:=l.foldl (λ out r=>addN out r.name (G0 n t lot d r)) []
theorem Kr(f:cK->Bool):∀(l:List cK) out,(l.foldl (λ out r=>addN out r.name (f r)) out).length<=out.length+l.length
 |[],out=>by simp
 |r::l,out=>by have h1:=Kr f l (addN out r.name (f r));have h2:=aed out r.name (f r);rw[foldl_cons,fU];omega
def applied(t:fP)(lot:iK)(day:Int):List cK:=t.bm.filter (qU (u6 t lot) day)
def uF(t:fP)(d:aG):iK:=(mq t.land d.lot).1
def Nu(n:Nat)(t:fP)(d:aG)(day:Int):List ByteArray:=bif wJ n t d==0 then addN (PY n t (uF t d) d (applied t (uF t d) day)) ajl (alo t d)else []
theorem Z8{t:fP}{d:aG} day (ht:Yw t) (hd:WS d) (hn:yl n):qO n t d day=some (Nu n t d day,wJ n t d):=by
 obtain⟨hk,hv⟩:=look_eq (n:=n) ht hd hn;have hn1:=hn.1;have hvl:=qj hd.1;simp[qO,hk,Nu];by_cases h0:wJ n t d=0;have h0b:(wJ n t d==0)=true:=by simp[h0]
 have h0c:(wJ n t d !=0)=false:=by simp[h0]
 have hw:=Z0 ht.lots d.lot;have hz:=WU ht (uF t d);have hA:tN n (bT.mk t.cm t.cd t.ca t.bm t.co t.ci t.cD t.cj) (u6 t (uF t d)) day=some ((PW t.bm (u6 t (uF t d)) day).map λ(i:Nat)=>(i:Int)):=R4 _ _ _ (λ r hr=>(ht.rule r hr).1) ht.rules hz (by omega);have hal:(PW t.bm (u6 t (uF t d)) day).length<=100:=Nat.le_trans (length_filter_le _ _) (by rw[List.length_range];exact ht.rules);have hpick:(PW t.bm (u6 t (uF t d)) day).filterMap (λ i=>t.bm[i]?)=applied t (uF t d) day:=Rv (qU (u6 t (uF t d)) day) t.bm;have hloop:∀A:List Nat,A.length<=100->(∀ i∈A,i<t.bm.length)->iter (nD n t (sB t (uF t d) d,wJ n t d) (A.map λ(i:Nat)=>i)) n (0,[])=some (PY n t (uF t d) d (A.filterMap λi=>t.bm[i]?)):=by
  intro A hA hAr
  have key:=gL (l:=A) (step:=nD n t (sB t (uF t d) d,wJ n t d) (A.map λ(i:Nat)=>i)) (λ i s=>(i,s)) (λ i s=>match t.bm[i]? with
   |some r=>addN s r.name (G0 n t (uF t d) d r)
   |none=>s) (λ s=>s) (λ i s=>s.length<=i) (λ i hi s hs=>by have hr:=hAr _ (getElem_mem hi);have hlm:(A.map λ(i:Nat)=>(i:Int)).length=A.length:=(by simp);have hg:bz (A.map λ(i:Nat)=>(i:Int)) ((0:Nat)+i)=some ((A[i]:Nat):Int):=(by rw[bG (by omega)];simp);have hrr:=ht.rule _ (getElem_mem hr);have hb:=ajk (n:=n) (t:=t) (lot:=uF t d) (d:=d) ht hw.1 hd (hv h0) hrr.2 hn;have e:=dm hr;simp only[nD,hlm,dV hi,aj,aV hi,hg,ai,bJ hr,hb,aN,aee (n:=n) (name:=t.bm[A[i]].name) (bad:=G0 n t (uF t d) d t.bm[A[i]]) (out:=s) (by omega) (by omega),aX i,e];exact⟨trivial,Nat.le_trans (aed _ _ _) (by omega)⟩) (λ s _=>by have hlm:(A.map λ(i:Nat)=>i).length=A.length:=(by simp);simp[nD]) n (by omega) [] (aA _)
  rw[ll]at key;rw[key];congr 1;unfold PY;generalize []=s0;clear key hA
  induction A generalizing s0 with
  |nil=>rfl
  |cons a A ih=>
   have ha:=hAr a (by simp);rw[foldl_cons,List.filterMap_cons];simp only[dm ha];rw[foldl_cons];exact ih (λ i hi=>hAr i (by simp[hi])) _
 have hlo:=hloop (PW t.bm (u6 t (uF t d)) day) hal (λ i hi=>by have:=(mem_filter.1 hi).1;simpa using this);rw[hpick]at hlo;have hrl:(PY n t (uF t d) d (applied t (uF t d) day)).length<=100:=by have h1:=Kr (G0 n t (uF t d) d) (applied t (uF t d) day) [];have h2:(applied t (uF t d) day).length<=100:=Nat.le_trans (length_filter_le _ _) ht.rules;unfold PY;simp at h1;omega
 have hany:iB n (sB t (uF t d) d) (λ (y1:ay×Unit)=>nC n y1.1 t d)=some (alo t d):=by
  have hs:∀v,nC n v t d=some (!N0 t.cw d.lot (uZ v)):=by intro v;have hl1:(uZ v).length=1:=rfl;have h:=Yq (n:=n) (l:=t.cw) (lot:=d.lot) (s:=uZ v) ht.eas.1 ht.eas.2 (by simp[uZ]) (by omega);simp[nC,aeb,h]
  simp[iB,show(sB t (uF t d) d).az=b7 d from rfl];rw[fD (λ v=>!N0 t.cw d.lot (uZ v)) (λ v _=>hs v) (by omega) (by omega)];rfl
 have hsc:sB t (mq t.land d.lot).1 d=sB t (uF t d) d:=rfl;simp only[h0b,h0c,aj,au,hsc,show(sB t (uF t d) d).zones=u6 t (uF t d)from rfl,hA,ai,length_nil,aN,hlo,hany,aee (n:=n) (name:=⟨#[101,97,115,101,109,101,110,116]⟩) (bad:=alo t d) (out:=PY n t (uF t d) d (applied t (uF t d) day)) (by omega) (by omega),jq];rw[h0];rfl;have h0b:(wJ n t d==0)=false:=by simpa using h0
 have h0c:(wJ n t d !=0)=true:=by simpa using h0
 simp[h0b,h0c]
theorem ajm{t:fP}{d:aG} day (ht:Yw t) (hd:WS d) (hn:yl n):qP n t d day=some ((wJ n t d==0)&&decide (Nu n t d day=[])):=by
 simp[qP,Z8 day ht hd hn];cases (wJ n t d==0)with
 |false=>rfl
 |true=>
  simp;cases Nu n t d day with
  |nil=>rfl
  |cons x l=>
   have:(((x::l).length:Nat):Int)≠0:=(by simp;omega);rw[beq_eq_false_iff_ne.2 this];simp
end Go.Proofs
