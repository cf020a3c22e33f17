import Derived.Test.YtaelkbidpfffmaaGreatTD1
open Go.IntKind (i64)
open List (length_take mem_map all_eq_true getElem_mem length_map mem_iff_getElem length_drop length_nil foldl_cons take_of_length_le mem_filter any_eq_true pairwise_cons length_filter_le map_append pairwise_append getElem_drop)
namespace Go.Proofs
open Go.Gb Go.RowKit
variable {n:Nat}
theorem kG(a b:Int):cmp_Compare_int a b=some (if a<b then -1 else if b<a then 1 else 0):=by by_cases h1:a<b;simp[cmp_Compare_int,cmp_isNaN_int,h1];by_cases h2:b<a;simp[cmp_Compare_int,cmp_isNaN_int,h1,h2];simp[cmp_Compare_int,cmp_isNaN_int,h1,h2]
theorem oQ{l:List Int}(hl:l.length<1099511627776)(_:l.length<n):oN n l=some (iy ke l):=by show H5 l=_;unfold H5;rw[Nat.ble_eq_true_of_le (show l.length<=1099511627775 by omega),aj]
theorem tu{l:List Int}(hl:l.length<1099511627776)(hn:l.length<n):oO n l=some ((),iT l):=by rw[<- acN];exact XA (eq:=λx y=>x==y) (ne:=λx y=>x !=y) (λ x y=>by simp[bne]) hl hn
theorem Ra{l:List Int}{a:Int}(hl:l.length<1099511627776)(hn:l.length<n):Ea n l a=some (AB (λ x=>a==x) l):=Qq hl hn
theorem Kw{l:List Int}{a:Int}(hl:l.length<1099511627776)(hn:l.length<n):qG n l a=some (l.any λx=>a==x):=by unfold qG;rw[Ra hl hn,ai,wR]
theorem E9{l:List bS}{φ:(bS×Unit)->Option Bool}(p:bS->Bool)(h:∀x∈l,φ (x,())=some (p x))(hl:l.length<1099511627776)(hn:l.length<n):qP n l φ=some (AB p l):=iG p h hl hn
theorem Fa{l:List bC}{φ:(bC×Unit)->Option Bool}(p:bC->Bool)(h:∀x∈l,φ (x,())=some (p x))(hl:l.length<1099511627776)(hn:l.length<n):kz n l φ=some (AB p l):=iG p h hl hn
theorem OJ{l:List au}(h:l.length<1099511627776):AJ l=some l:=Qr (b:=32) (by omega) (by simp[maxLen];omega)
theorem MJ{l:List (List au)}(hf:l.flatten.length<1099511627776)(hl:l.length<1099511627776)(hn:l.length<n):yD n l=some l.flatten:=L6 (au.mk 0 0 0 0) (b:=32) hf (by omega) hl hn
theorem Cn{a b:List au}(hl:a.length<1099511627776)(hn:a.length<n):nY n a b=some (decide (a=b)):=by
 have e:nY n a b=Sq n (λ x1 x2:au=>!((x1.x0==x2.x0)&&((x1.y0==x2.y0)&&((x1.x1==x2.x1)&&((x1.y1==x2.y1)&&true))))) a b:=by kernel_rfl
 rw[e];refine Qs (λ x y=>?_) hl hn;obtain⟨a,b,c,d⟩:=x;obtain⟨e,f,g,h⟩:=y;simp;rw[dw];simp
theorem Co{a b:List aH}(hl:a.length<1099511627776)(hn:a.length<n):u7 n a b=some (decide (a=b)):=by
 have e:u7 n a b=Sq n (λ x1 x2:aH=>!((x1.from_==x2.from_)&&((x1.to==x2.to)&&true))) a b:=by kernel_rfl
 rw[e];refine Qs (λ x y=>?_) hl hn;obtain⟨a,b⟩:=x;obtain⟨c,d⟩:=y;simp;rw[dw];simp
abbrev q6(a b:aH):Bool:=decide (a.from_<b.from_)
theorem MK:Go.Sort.SWO q6 where
 irrefl x:=by simp[q6]
 trans x y z h1 h2:=by simp only[q6,bM]at *;omega
 ntrans x y z h1 h2:=by simp only[q6,dU]at *;omega
theorem Jk{l:List aH}{φ:(aH×aH×Unit)->Option Int}(f:aH->aH->Int)(hφ:∀x y,φ (x,y,())=some (f x y))(hf:∀x y,decide (f x y<0)=q6 x y)(hl:l.length<1099511627776)(_:l.length<n):uR n l φ=some (mX q6 l):=
 acW f hφ hf MK hl
theorem ahg{V O:Type}{step:V->Option (V⊕O)}(Inv:V->Prop)(Post:O->Prop)(μ:V->Nat)
 (h:∀v,Inv v->(∃ v',step v=some (.inl v')/\Inv v'/\μ v'< μ v)\/∃o,step v=some (.inr o)/\Post o):∀(n:Nat)(v:V),Inv v->μ v<n->∃o,iter step n v=some o/\Post o
 | 0,_,_,hn=>absurd hn (Nat.not_lt_zero _)
 |n+1,v,hi,hn=>by rcases h v hi with ⟨v',h1,h2,h3⟩|⟨o,h1,h2⟩;rw[mO h1];exact ahg Inv Post μ h n v' h2 (by omega);exact⟨o,jl h1,h2⟩
theorem Hg:∀(N:Nat)(l:List Nat),l.Nodup->(∀ y∈l,y<N)->l.length<=N
 | 0,[],_,_=>aB _
 | 0,x::l,_,h=>absurd (h x (by simp)) (by omega)
 |N+1,l,hn,h=>by
  have h1:=Hg N (l.filter λy=>decide (y≠N)) (hn.filter _) (λ y hy=>by rw[mem_filter]at hy;have:=h y hy.1;have:=hy.2;simp at this;omega);have h2:=List.length_eq_countP_add_countP (λ y=>decide (y≠N)) (l:=l);rw[List.countP_eq_length_filter]at h2;have h3:List.countP (λ a=>decide ¬(decide (a≠N)=true)) l=l.count N:=by rw[List.count];refine List.countP_congr λy _=>?_;simp
  have h4:=List.nodup_iff_count.1 hn N;omega
def XG(us:List (List Int))(N:Nat):Prop:=us.length=N/\N<=4000000/\∀l∈us,l.length<=4000000/\∀k∈l,0<=k/\k<N
structure BI(us:List (List Int))(N to h:Nat)(d:List Int)(F:List Nat):Prop where
 dl:d.length=N
 nd:F.Nodup
 rg:∀x∈F,x<N
 mem:∀i:Nat,i<N->(0<=d.getD i 0↔i∈F)
 ub:∀j x:Nat,F[j]? =some x->d.getD x 0<=(j:Int)
 pre:∀j x:Nat,F[j]? =some x->0<j->∃p y:Nat,p<j/\F[p]? =some y/\(y:Int)∈us.getD x []/\d.getD y 0=d.getD x 0-1
 hd:F[0]? =some to/\d.getD to 0=0
 hh:h<=F.length
 cl:∀p y:Nat,p<h->F[p]? =some y->∀i:Nat,i<N->(y:Int)∈us.getD i []->0<=d.getD i 0
theorem BI.len{us:List (List Int)}{N to h:Nat}{d:List Int}{F:List Nat}(b:BI us N to h d F):F.length<=N:=by exact Hg N F b.nd b.rg
theorem BI.push{us:List (List Int)}{N to h:Nat}{d:List Int}{F:List Nat}(b:BI us N to h d F){i x p:Nat}(hi:i<N)(hd:d.getD i 0<0)(hp:F[p]? =some x)(hx:(x:Int)∈us.getD i []):
 BI us N to h (d.set i (d.getD x 0+1)) (F++[i]):=by
 have hiF:i∉F:=λhm=>by have:=(b.mem i hi).2 hm;omega
 have PT:x∈F:=bX hp;have hne:∀y,y∈F->i≠y:=λy hy e=>hiF (e ▸ hy);have hset:∀y,y∈F->(d.set i (d.getD x 0+1)).getD y 0=d.getD y 0:=λy hy=>by simp[List.getElem?_set_ne (hne y hy)]
 have t6:(d.set i (d.getD x 0+1)).getD i 0=d.getD x 0+1:=by
  have:i<d.length:=by rw[b.dl];exact hi
  simp[this]
 have hx0:0<=d.getD x 0:=(b.mem x (b.rg x PT)).2 PT;have hlt:p<F.length:=(cB.1 hp).1;refine⟨by simpa using b.dl,?_,?_,?_,?_,?_,?_,?_,?_⟩;rw[List.nodup_append];exact⟨b.nd,by simp,λa ha c hc=>by simp at hc;subst hc;exact λe=>hiF (e ▸ ha)⟩;intro y hy;rw[bO]at hy;rcases hy with hy|hy;exact b.rg y hy;simp at hy;omega;intro j hj;by_cases e:i=j;subst e;rw[t6];exact⟨λ _=>by simp,λ_=>by omega⟩;simp only[List.getD,List.getElem?_set_ne e];rw[bO];have:=b.mem j hj;simp at this;rw[this];simp[Ne.symm e];intro j y hy;rw[List.getElem?_append]at hy;split at hy;rw[hset y (bX hy)];exact b.ub j y hy;rename_i hj;have:y=i/\j=F.length:=by
  cases h:j-F.length with
  |zero=>rw[h]at hy;simp at hy;exact⟨hy.symm,by omega⟩
  |succ z=>rw[h]at hy;simp at hy
 obtain⟨rfl,rfl⟩:=this;rw[t6];have:=b.ub p x hp;omega;intro j y hy hj;rw[List.getElem?_append]at hy;split at hy;have⟨p',y',h1,h2,h3,h4⟩:=b.pre j y hy hj;exact⟨p',y',h1,by rw[List.getElem?_append_left (by have:=(cB.1 h2).1;exact this)];exact h2,h3,by rw[hset y' (bX h2),hset y (bX hy)];exact h4⟩;rename_i hj';have:y=i/\j=F.length:=by
  cases h:j-F.length with
  |zero=>rw[h]at hy;simp at hy;exact⟨hy.symm,by omega⟩
  |succ z=>rw[h]at hy;simp at hy
 obtain⟨rfl,rfl⟩:=this;exact⟨p,x,hlt,by rw[List.getElem?_append_left hlt];exact hp,hx,by rw[t6,hset x PT];omega⟩;have h0:=(cB.1 b.hd.1).1;exact⟨by rw[List.getElem?_append_left h0];exact b.hd.1,by rw[hset _ (bX b.hd.1)];exact b.hd.2⟩;have:=b.hh;simp;omega;intro p' y hp' hy j hj hm;rw[List.getElem?_append_left (by have:=b.hh;omega)]at hy;have:=b.cl p' y hp' hy j hj hm;rw[hset j ((b.mem j hj).1 this)];exact this
theorem oB{α:Type}(o:Nat)(l:List α):Ug o l=l.drop o:=by cases o<;>simp[Ug]
def BS(us:List (List Int))(N to h x:Nat):(Int×Int×List Int×List Int)->Prop
 |(v4,v5,d,v7)=>∃(o i:Nat)(F:List Nat),v4=o/\v5=i/\o<=v7.length/\v7.drop o=(F.drop (h+1)).map (λ k:Nat=>(k:Int))/\i<=N/\BI us N to h d F/\F[h]? =some x/\∀i',i'<i->(x:Int)∈us.getD i' []->0<=d.getD i' 0
theorem alQ{n N to h x:Nat}{a0:oM}{r1:List Int}(hg:XG a0.uses N)(hr:r1.length=N)(hn:4000001<=n)(v:Int×Int×List Int×List Int)(hv:BS a0.uses N to h x v):
 (∃ v',fV n a0 r1 x v=some (.inl v')/\BS a0.uses N to h x v'/\N-v'.2.1.toNat<N-v.2.1.toNat)\/
 ∃q,fV n a0 r1 x v=some (.inr q)/\∃(o:Nat)(F:List Nat),q.1=(o:Int)/\o<=q.2.2.length/\q.2.2.drop o=(F.drop (h+1)).map (λ k:Nat=>(k:Int))/\BI a0.uses N to (h+1) q.2.1 F:=by
 obtain⟨v4,v5,d,v7⟩:=v;obtain⟨o,i,F,rfl,rfl,ho,hq,hi,hb,hx,hc⟩:=hv;have hx':x<N:=hb.rg x (bX hx);have DD:=hg.1;have hdl:=hb.dl;by_cases hlt:i<N;left;have ut:i<a0.uses.length:=by omega
 have hl:=hg.2.2 a0.uses[i] (getElem_mem ut);have hcon:=Kw (n:=n) (l:=a0.uses[i]) (a:=(x:Int)) (by omega) (by omega);have hud:a0.uses.getD i []=a0.uses[i]:=by simp[ut]
 have hdi:d[i]'(by omega)=d.getD i 0:=by simp[show i<d.length by omega]
 have DE:d[x]'(by omega)=d.getD x 0:=by simp[show x<d.length by omega]
 simp only[fV,show decide ((i:Int)<((a0.uses.length:Int)))=true from by simp;omega,aj,bf ut,ai,bE (show i<r1.length by omega),bE (show x<r1.length by omega),
  bJ (show i<d.length by omega),bJ (show x<d.length by omega),hcon,hdi,DE]
 have hFl:=hb.len;have hN:=hg.2.1;have hlen:v7.length-o=F.length-(h+1):=by have:=congrArg List.length hq;simpa using this
 have hmx:maxLen=9223372036854775807:=rfl;by_cases hA:d.getD i 0<0/\(x:Int)∈a0.uses[i];have h1:(a0.uses[i].any λy=>(x:Int)==y)=true:=any_eq_true.2 ⟨_,hA.2,by simp⟩;have hx0:0<=d.getD x 0:=(hb.mem x hx').2 (bX hx);have hxu:=hb.ub h x hx;have Sa:h<F.length:=(cB.1 hx).1;have hap:bQ (v7.drop o).length (v7.length-o) (sub [(i:Int)] 0 1).length 1 8=true:=by simp[bQ,sub];omega
 have hw:i64.wrap (d.getD x 0+1)=d.getD x 0+1:=bZ (by omega) (by omega);refine⟨(((0:Nat):Int),((i+1:Nat):Int),d.set i (d.getD x 0+1),v7.drop o++[(i:Int)]),?_,?_,by show N-((i+1:Nat):Int).toNat<N-(i:Int).toNat;omega⟩;simp only[hA.1,decide_true,aj,ai,h1,Int.toNat_natCast,oB,hap,eu,hw,aQ i];simp[sub];refine⟨0,i+1,F++[i],rfl,rfl,Nat.zero_le _,?_,by omega,hb.push hlt hA.1 hx (by rw[hud];exact hA.2),by rw[List.getElem?_append_left Sa];exact hx,?_⟩;rw[List.drop_zero,hq,List.drop_append_of_le_length (by omega)];simp;intro i' hi' hm;have hpush:=hb.push hlt hA.1 hx (by rw[hud];exact hA.2);by_cases e:i'=i;subst e;exact(hpush.mem i' hlt).2 (by simp);have:=hc i' (by omega) hm;exact(hpush.mem i' (by omega)).2 (List.mem_append_left _ ((hb.mem i' (by omega)).1 this));have hB:(bif decide (d.getD i 0<0)then some (a0.uses[i].any λy=>(x:Int)==y)else some false)=some false:=by
  by_cases h2:d.getD i 0<0;simp only[h2,decide_true,aj,bP];cases hc:(a0.uses[i].any λy=>x==y)with
  |false=>rfl
  |true=>
   obtain⟨y,hy,e⟩:=any_eq_true.1 hc;obtain rfl:x=y:=(by simpa using e);exact absurd ⟨h2,hy⟩ hA
  simp only[h2,decide_false,ax]
 refine⟨(o,(i+1:Nat),d,v7),?_,?_,by show N-((i+1:Nat):Int).toNat<N-(i:Int).toNat;omega⟩;rw[hB];simp[Ow (show o+(v7.length-o)=v7.length by omega),aQ i];refine⟨o,i+1,F,rfl,rfl,ho,hq,by omega,hb,hx,λi' hi' hm=>?_⟩;by_cases e:i'=i;subst e;rw[hud]at hm;exact Int.not_lt.1 λh2=>hA ⟨h2,hm⟩;exact hc i' (by omega) hm;right;have hiN:i=N:=by omega
 have Sa:h<F.length:=(cB.1 hx).1;refine⟨(o,d,v7),?_,o,F,rfl,ho,hq,?_⟩;simp only[fV,show decide ((i:Int)<(a0.uses.length))=false from by simp;omega,ax,Int.toNat_natCast,Ow (show o+(v7.length-o)=v7.length by omega),aj];refine⟨hb.dl,hb.nd,hb.rg,hb.mem,hb.ub,hb.pre,hb.hd,Sa,λp y hp hy j hj hm=>?_⟩;by_cases e:p=h;subst e;rw[hx]at hy;cases hy;exact hc j (by omega) hm;exact hb.cl p y (by omega) hy j hj hm
def BO(us:List (List Int))(N to h:Nat):(Int×List Int×List Int)->Prop
 |(v1,d,v3)=>∃(o:Nat)(F:List Nat),v1=o/\o<=v3.length/\v3.drop o=(F.drop h).map (λ k:Nat=>(k:Int))/\BI us N to h d F
theorem alR{n N to h:Nat}{a0:oM}{r1:List Int}(hg:XG a0.uses N)(hr:r1.length=N)(hn:4000001<=n)(v:Int×List Int×List Int)(hv:BO a0.uses N to h v):
 (∃ v',dL n a0 r1 v=some (.inl v')/\BO a0.uses N to (h+1) v')\/∃d,dL n a0 r1 v=some (.inr d)/\∃F,BI a0.uses N to F.length d F:=by
 obtain⟨v1,d,v3⟩:=v;obtain⟨o,F,rfl,ho,hq,hb⟩:=hv;have hlen:v3.length-o=F.length-h:=by have:=congrArg List.length hq;simpa using this
 by_cases hlt:h<F.length;left;obtain⟨x,hx⟩:∃x,F[h]? =some x:=⟨_,dD hlt⟩;have hox:v3[o]? =some x:=by have:=congrArg (λ l=>l[0]?) hq;simpa[hx]using this
 have hdr:v3.drop (o+1)=(F.drop (h+1)).map (λ k:Nat=>(k:Int)):=by have:=congrArg (λ l=>l.drop 1) hq;simpa using this
 obtain⟨q,hq1,o2,F2,hq2,hq3,hq4,hq5⟩:=ahg (BS a0.uses N to h x) (λ q:Int×List Int×List Int=>∃(o:Nat)(F:List Nat),q.1=o/\o<=q.2.2.length/\q.2.2.drop o=(F.drop (h+1)).map (λ k:Nat=>(k:Int))/\BI a0.uses N to (h+1) q.2.1 F)
  (λ v=>N-v.2.1.toNat) (alQ (r1:=r1) hg hr hn) n ((o+1:Nat),0,d,v3) ⟨o+1,0,F,rfl,rfl,by omega,hdr,Nat.zero_le _,hb,hx,λi' hi'=>absurd hi' (Nat.not_lt_zero _)⟩ (by have:=hg.2.1;simp;omega)
 obtain⟨w1,w2,w3⟩:=q;simp only at hq2 hq3 hq4 hq5;subst hq2;refine⟨(o2,w2,w3),?_,o2,F2,rfl,hq3,hq4,hq5⟩;have hat:cd v3 (o+0)=some (x:Int):=by rw[Int.add_zero,UP];exact hox
 simp only[dL,Int.toNat_natCast,show decide (((v3.length-o:Nat):Int)>0)=true from by simp;omega,aj,show cP 0 (v3.length-o)=true from by simp[cP];omega,hat,ai,
  xO (show 0<=1 by omega) (show (1:Int)<=(v3.length-o:Nat)by omega) (Int.le_refl _),Ow (show o+1+(v3.length-o-1)=v3.length by omega),hq1,Ow (show o2+(w3.length-o2)=w3.length by omega)]
 right;have hhF:h=F.length:=by have:=hb.hh;omega
 refine⟨d,?_,F,hhF ▸ hb⟩;simp only[dL,Int.toNat_natCast,show decide (((v3.length-o:Nat):Int)>0)=false from by simp;omega,ax]
theorem eO{V O:Type}{step:V->Option (V⊕O)}(Inv:Nat->V->Prop)(Post:O->Prop)(K:Nat)(hK:∀k v,Inv k v->k<=K)
 (h:∀k v,Inv k v->(∃ v',step v=some (.inl v')/\Inv (k+1) v')\/∃o,step v=some (.inr o)/\Post o):∀(n k:Nat)(v:V),Inv k v->K<n+k->∃o,iter step n v=some o/\Post o
 | 0,k,v,hi,hn=>absurd (hK k v hi) (by omega)
 |n+1,k,v,hi,hn=>by rcases h k v hi with ⟨v',h1,h2⟩|⟨o,h1,h2⟩;rw[mO h1];exact eO Inv Post K hK h n (k+1) v' h2 (by omega);exact⟨o,jl h1,h2⟩
theorem aaM{n N to:Nat}{a0:oM}(hg:XG a0.uses N)(hd:a0.defs.length=N)(hn:4000002<=n)(ht:to<N):∃d F,jR n a0 to=some d/\BI a0.uses N to F.length d F:=by
 have hN:=hg.2.1;have hr:qm (sub ([(-1)]:List Int) 0 1) N=some (List.replicate N (-1)):=by show(ck (decide (0<=(N:Int))&&decide ((N:Int)<=1000000000000)) (some (List.replicate (N:Int).toNat (-1))))=_;rw[show decide (0<=(N:Int))=true by simp,show decide ((N:Int)<=1000000000000)=true by simp;omega];rfl
 have hlr:(List.replicate N (-1:Int)).length=N:=List.length_replicate;have hb0:BI a0.uses N to 0 ((List.replicate N (-1:Int)).set to 0) [to]:=by
  have hto:((List.replicate N (-1:Int)).set to 0).getD to 0=0:=by simp[ht]
  refine⟨by simp,by simp,λx hx=>by simp at hx;omega,λi hi=>?_,λj x hx=>?_,λj x hx hj=>?_,⟨rfl,hto⟩,by simp,λp y hp=>absurd hp (Nat.not_lt_zero _)⟩;by_cases e:to=i;subst e;rw[hto];simp;simp[List.getElem?_set_ne e];simp[hi,Ne.symm e];cases j with
  |zero=>simp at hx;subst hx;rw[hto];simp
  |succ j=>simp at hx
  cases j with
  |zero=>omega
  |succ j=>simp at hx
 obtain⟨d,h1,F,h2⟩:=eO (step:=dL n a0 (List.replicate N (-1))) (λ h v=>BO a0.uses N to h v) (λ d=>∃F,BI a0.uses N to F.length d F) N (λ h v ⟨_,_,_,_,_,hb⟩=>Nat.le_trans hb.hh hb.len) (λ h v hv=>alR (n:=n) (r1:=List.replicate N (-1)) hg hlr (by omega) v hv) n 0
  ((0:Nat),(List.replicate N (-1:Int)).set to 0,[to]) ⟨0,[to],rfl,Nat.zero_le _,rfl,hb0⟩ (by omega)
 refine⟨d,F,?_,h2⟩;have hdl:d.length=N:=h2.dl;have h1':iter (dL n a0 (List.replicate N (-1))) n (0,(List.replicate N (-1:Int)).set to 0,[to])=some d:=h1;simp only[jR,hd,hr,ai,hlr,bE ht,bJ (show to<(List.replicate N (-1:Int)).length by omega),aj,show(((0:Nat):Int)+to).toNat=to by omega,h1];simp[sub,hdl];exact take_of_length_le (Nat.le_of_eq hdl)
def Nr(d:List Int)(l:List Int)(w:Int):Prop:=
 (w=-1/\∀k∈l,d.getD k.toNat 0<0)\/(w∈l/\0<=d.getD w.toNat 0/\∀k∈l,0<=d.getD k.toNat 0->d.getD w.toNat 0<=d.getD k.toNat 0)
theorem Nr.snoc{d l:List Int}{w k:Int}(h:Nr d l w)(hk:0<=k)(hl:∀x∈l,0<=x):Nr d (l++[k]) (if 0<=d.getD k.toNat 0/\(w<0\/d.getD k.toNat 0<d.getD w.toNat 0)then k else w):=by split;rename_i h1;refine .inr ⟨by simp,h1.1,λz hz h0=>?_⟩;rw[bO]at hz;rcases hz with hz|hz;rcases h with ⟨rfl,h⟩|⟨hw,hw0,h⟩;have:=h z hz;omega;have h2:=h z hz h0;have:=hl w hw;rcases h1.2 with h3|h3<;>omega;simp at hz;subst hz;exact Int.le_refl _;rename_i h1;rcases h with ⟨rfl,h⟩|⟨hw,hw0,h⟩;refine .inl ⟨rfl,λz hz=>?_⟩;rw[bO]at hz;rcases hz with hz|hz;exact h z hz;simp at hz;subst hz;exact Int.not_le.1 λh2=>h1 ⟨h2,.inl (by omega)⟩;refine .inr ⟨List.mem_append_left _ hw,hw0,λz hz h0=>?_⟩;rw[bO]at hz;rcases hz with hz|hz;exact h z hz h0;simp at hz;subst hz;exact Int.not_lt.1 λh2=>h1 ⟨h0,.inr h2⟩
theorem alS{n N:Nat}{d l:List Int}(hd:d.length=N)(hl:l.length<=4000000)(hr:∀k∈l,0<=k/\k<N)(hn:4000001<=n):∃w,iter (iR d l) n (-1,0)=some w/\Nr d l w:=by
 refine eO (λ i (v:Int×Int)=>i<=l.length/\v.2=i/\Nr d (l.take i) v.1) (λ w=>Nr d l w) l.length (λ k v h=>h.1) ?_ n 0 _ ⟨Nat.zero_le _,rfl,.inl ⟨rfl,by simp⟩⟩ (by omega);rintro i ⟨v3,v4⟩ ⟨hi,rfl,hN⟩;by_cases hlt:i<l.length;left;have hk:=hr l[i] (getElem_mem hlt);obtain⟨k,hk2⟩:=Int.eq_ofNat_of_zero_le hk.1;have hkN:k<d.length:=by omega
 have G0:d[k]=d.getD k 0:=by simp[hkN]
 have htk:l.take (i+1)=l.take i++[l[i]]:=by rw[List.take_add_one,dD hlt];rfl
 have hlk:∀x∈l.take i,0<=x:=λx hx=>(hr x (List.mem_of_mem_take hx)).1;have hsn:=hN.snoc hk.1 hlk;refine⟨(if 0<=d.getD (l[i]).toNat 0/\(v3<0\/d.getD (l[i]).toNat 0<d.getD v3.toNat 0)then l[i]else v3,(i+1:Nat)),?_,hlt,rfl,by rw[htk];exact hsn⟩;simp only[iR,show decide ((i:Int)<l.length)=true from by simp;omega,aj,bf hlt,ai,hk2,bE hkN,bJ hkN,G0,Int.toNat_natCast,aQ i];by_cases h0:0<=d.getD k 0;by_cases h1:v3<0;simp only[h0,h1,decide_true,aj,ai,true_and,true_or,if_true];have hv:v3∈l.take i:=by rcases hN with ⟨rfl,_⟩|⟨h,_⟩;omega;exact h
 have zj:=hr v3 (List.mem_of_mem_take hv);obtain⟨z,hz⟩:=Int.eq_ofNat_of_zero_le zj.1;subst hz;have DA:z<d.length:=by omega
 have hgz:d[z]=d.getD z 0:=by simp[DA]
 simp only[h0,decide_true,aj,h1,decide_false,ax,bE DA,bJ DA,ai,hgz,Int.toNat_natCast,true_and,false_or];by_cases h2:d.getD k 0<d.getD z 0;simp only[h2,decide_true,aj,if_true,ai];simp only[h2,decide_false,ax,if_false,ai];simp only[h0,decide_false,ax,ai,false_and,if_false];right;refine⟨v3,?_,?_⟩;simp only[iR,show decide ((i:Int)<l.length)=false from by simp;omega,ax];rw[take_of_length_le (by omega)]at hN;exact hN
theorem BI.step{us:List (List Int)}{N to h:Nat}{d:List Int}{F:List Nat}(b:BI us N to h d F){x:Nat}(hx:x<N)(hne:x≠to)(h0:0<=d.getD x 0):∃y:Nat,(y:Int)∈us.getD x []/\d.getD y 0=d.getD x 0-1/\0<=d.getD y 0:=by
 obtain⟨j,hj,hjx⟩:=mem_iff_getElem.1 ((b.mem x hx).1 h0);have hj':F[j]? =some x:=by rw[dD hj,hjx]
 have hj0:0<j:=by
  cases j with
  |zero=>rw[b.hd.1]at hj';cases hj';exact absurd rfl hne
  |succ j=>exact Nat.succ_pos _
 have⟨p,y,_,h2,h3,h4⟩:=b.pre j x hj' hj0;have hyF:=bX h2;exact⟨y,h3,h4,(b.mem y (b.rg y hyF)).2 hyF⟩
theorem aij{n N fr:Nat}{a1:List fI}{us:List (List Int)}(hg:XG us N)(hd:a1.length=N)(hn:4000003<=n)(hf:fr<N):∃d F c,BI us N fr F.length d F/\jT n fr a1 us=some (a1,us,c)/\c.length<=N+1/\(c=[]->∀k∈us.getD fr [],d.getD k.toNat 0<0):=by
 obtain⟨d,F,hdi,hb⟩:=aaM (n:=n) (a0:=oM.mk a1 us) hg hd (by omega) hf;have hN:=hg.2.1;have DD:=hg.1;have hmx:maxLen=9223372036854775807:=rfl;have hloop:∃o,iter (kU n fr a1 us d) n (fr,[])=some o/\∃c,o=.inr (a1,us,c)/\c.length<=N+1/\(c=[]->∀k∈us.getD fr [],d.getD k.toNat 0<0):=by
  refine eO (λ k (v:Int×List ByteArray)=>∃at_:Nat,v.1=at_/\at_<N/\v.2.length=k/\k<=N/\((k=0/\at_=fr)\/(0<k/\at_≠fr/\0<=d.getD at_ 0/\d.getD at_ 0+k<=N))) _ N (λ k v ⟨_,_,_,_,h,_⟩=>h) ?_ n 0 _ ⟨fr,rfl,hf,rfl,Nat.zero_le _,.inl ⟨rfl,rfl⟩⟩ (by omega);rintro k ⟨v1,v2⟩ ⟨x,rfl,hx,hv2,hkN,hst⟩;simp at hv2;have hxa:x<a1.length:=by omega
  have hxu:x<us.length:=by omega
  have hl:=hg.2.2 us[x] (getElem_mem hxu);obtain⟨w,hw,hnr⟩:=alS (n:=n) (d:=d) (l:=us[x]) hb.dl hl.1 hl.2 (by omega);have hgu:us.getD x []=us[x]:=by simp[hxu]
  have hap:bQ v2.length v2.length (sub [a1[x].name] 0 1).length 1 16=true:=by simp[bQ,sub];omega
  simp only[kU,bf hxa,bf hxu,ai,hap,aj,eu,hw];have hsl:(v2++sub [a1[x].name] 0 1).length=k+1:=by simp[sub,hv2]
  have hne:((v2++sub [a1[x].name] 0 1).length==0)=false:=by rw[hsl];simp
  rcases hnr with ⟨rfl,hno⟩|⟨hwm,hw0,hmin⟩;right;refine⟨.inr (a1,us,[]),by simp,[],rfl,by simp,λ_=>?_⟩;rcases hst with ⟨_,rfl⟩|⟨_,PR,hx0,_⟩;rw[hgu];exact hno;have⟨y,hy,_,hy0⟩:=hb.step hx PR hx0;have hy':(y:Int)∈us[x]:=by rw[<- hgu];exact hy
  have:=hno _ hy';simp only[Int.toNat_natCast]at this;omega;have hwr:=hl.2 w hwm;obtain⟨z,rfl⟩:=Int.eq_ofNat_of_zero_le hwr.1;simp only[Int.toNat_natCast]at hw0 hmin;by_cases hzf:z=fr;right;subst hzf;refine⟨.inr (a1,us,v2++sub [a1[x].name] 0 1),?_,_,rfl,by omega,λh=>by rw[h]at hsl;simp at hsl⟩;simp only[show decide ((z:Int)<0)=false from by simp,ax,beq_self_eq_true,aj,hne,Bool.not_false,Bool.true_and,aI,Option.map_some];left;have DA:z<N:=by omega
  have hb1:d.getD z 0+(k+1:Nat)<=N:=by rcases hst with ⟨hk0,rfl⟩|⟨_,PR,hx0,hle⟩;have hzF:=(hb.mem z DA).1 hw0;obtain⟨j,hj,hjz⟩:=mem_iff_getElem.1 hzF;have h3:=hb.ub j z (by rw[dD hj,hjz]);have:=hb.len;omega;have⟨y,hy,hyd,hy0⟩:=hb.step hx PR hx0;have:=hmin y (by rw[<- hgu];exact hy) (by simpa using hy0);simp only[Int.toNat_natCast]at this;omega
  refine⟨(z,v2++sub [a1[x].name] 0 1),?_,z,rfl,DA,hsl,by omega,.inr ⟨Nat.succ_pos _,hzf,hw0,hb1⟩⟩;simp[show decide ((z:Int)<0)=false from by simp,show((z:Int)==fr)=false from by simp;omega]
 obtain⟨o,h1,c,rfl,h2⟩:=hloop;refine⟨d,F,c,hb,?_,h2⟩;simp only[jT,hdi,ai,h1];simp
theorem aaN(a b:ByteArray):∃r,nG a b=some r:=by simp[nG,cmp_isNaN_string];cases (!a.toList==a.toList)<;>cases (!b.toList==b.toList)<;>cases Uc a b<;>cases (a.toList==b.toList)<;>exact⟨_,rfl⟩
theorem aaO{a b:List ByteArray}(ha:a.length<=5000000)(hn:5000001<=n):∃r,lM n a b=some r:=by
 obtain⟨o,h,_⟩:=eO (step:=lK a b) (λ i v=>v=i/\i<=a.length) (λ _=>True) a.length (λ k v h=>h.2) (by
  rintro i v ⟨rfl,hi⟩;by_cases hlt:i<a.length;simp only[lK,show decide ((i:Int)<a.length)=true from by simp;omega,aj,bf hlt,ai];by_cases hb:i<b.length;have⟨r,hr⟩:=aaN a[i] b[i];simp only[show decide ((i:Int)>=b.length)=false from by simp;omega,ax,bf hb,ai,hr];cases hr0:(r !=0)with
  |true=>exact .inr ⟨_,rfl,trivial⟩
  |false=>exact .inl ⟨_,rfl,by rw[bB (by omega)],by omega⟩
  simp only[show decide ((i:Int)>=b.length)=true from by simp;omega,aj];exact .inr ⟨_,rfl,trivial⟩;simp only[lK,show decide ((i:Int)<a.length)=false from by simp;omega,ax];exact .inr ⟨_,rfl,trivial⟩) n 0 0 ⟨rfl,Nat.zero_le _⟩ (by omega)
 simp only[lM,h];cases o with
 |inl u=>cases u;simp only[fO];cases decide ((a.length:Int)<b.length)<;>exact⟨_,rfl⟩
 |inr r=>exact⟨r,by simp⟩
def sn(us:List (List Int))(N j:Nat):Prop:=∃d F,BI us N j F.length d F/\∀k∈us.getD j [],d.getD k.toNat 0<0
theorem ac0{n N:Nat}{a0:List fI}{us:List (List Int)}(hg:XG us N)(hd:a0.length=N)(hn:5000003<=n):∃c,jh n a0 us=some (a0,us,c)/\(c=[]->∀j,j<N->sn us N j)/\c.length<=N+1:=by
 have hN:=hg.2.1
 obtain⟨o,h1,c,rfl,h2⟩:=eO (step:=ic n a0) (λ i (v:Int×List fI×List (List Int)×List ByteArray)=>∃c,v=((i:Int),a0,us,c)/\i<=N/\c.length<=N+1/\(c=[]->∀j,j<i->sn us N j))
  (λ o=>∃c,o=(a0,us,c)/\(c=[]->∀j,j<N->sn us N j)/\c.length<=N+1) N (λ k v ⟨_,_,h,_⟩=>h) (by
  rintro i v ⟨c,rfl,hi,hcl,hc⟩;by_cases hlt:i<N;left;obtain⟨d,F,c2,hb,hci,RK,hc2⟩:=aij (n:=n) (a1:=a0) hg hd (by omega) hlt;simp only[ic,show decide ((i:Int)<a0.length)=true from by simp;omega,aj,hci,ai,aQ i,fF,aI];have hfin:∀c':List ByteArray,c'.length<=N+1->(c'=[]->c=[]/\c2=[])->∃c'',(((i+1:Nat):Int),a0,us,c')=(((i+1:Nat):Int),a0,us,c'')/\i+1<=N/\c''.length<=N+1/\(c''=[]->∀j,j<i+1->sn us N j):=λc' hl' he=>
   ⟨c',rfl,hlt,hl',λe j hj=>by have⟨e1,e2⟩:=he e;by_cases h:j=i;subst h;exact⟨d,F,hb,hc2 e2⟩;exact hc e1 j (by omega)⟩
  obtain⟨r,hr⟩:=aaO (n:=n) (a:=c2) (b:=c) (by omega) (by omega);cases h0:(c2.length==0)with
  |true=>
   have e2:c2=[]:=List.eq_nil_of_length_eq_zero (by simpa using h0);exact⟨_,by simp,hfin c hcl λe=>⟨e,e2⟩⟩
  |false=>
   have hne:c2≠[]:=λe=>(by rw[e]at h0;simp at h0);simp only[ax,ai];have key:∃b,(bif c.length==0 then some true else bif decide ((c2.length:Int)<c.length)then some true else bif(c2.length:Int)==c.length then(lM n c2 c).bind λr2=>some (decide (r2<0))else some false)=some b/\(c.length=0->b=true):=by
    cases h3:(c.length==0)with
    |true=>exact⟨true,rfl,λ_=>rfl⟩
    |false=>
     have hcn:c.length≠0:=(by simpa using h3);simp only[ax,hr,ai];cases decide ((c2.length:Int)<c.length)<;>cases ((c2.length:Int)==c.length)<;>exact⟨_,rfl,λe=>absurd e hcn⟩
   obtain⟨b,hb1,hb2⟩:=key;rw[hb1];cases b with
   |true=>exact⟨_,by simp,hfin c2 RK λe=>absurd e hne⟩
   |false=>exact⟨_,by simp,hfin c hcl λe=>by rw[e]at hb2;exact absurd (hb2 rfl) (by simp)⟩
  right;refine⟨(a0,us,c),?_,c,rfl,λe j hj=>hc e j (by omega),hcl⟩;simp only[ic,show decide ((i:Int)<a0.length)=false from by simp;omega,ax,aI,aj]) n 0 (0,a0,us,[]) ⟨[],rfl,Nat.zero_le _,by simp,λ_ j hj=>absurd hj (Nat.not_lt_zero _)⟩ (by omega)
 exact⟨c,by simp[jh,h1],h2⟩
theorem BI.back{us:List (List Int)}{N to:Nat}{d:List Int}{F:List Nat}(b:BI us N to F.length d F){i y:Nat}(hi:i<N)(hy:y<N)(h:(y:Int)∈us.getD i [])(h0:0<=d.getD y 0):0<=d.getD i 0:=by obtain⟨j,hj,hjy⟩:=mem_iff_getElem.1 ((b.mem y hy).1 h0);exact b.cl j y hj (by rw[dD hj,hjy]) i hi h
theorem alT{us:List (List Int)}{N:Nat}(hg:XG us N)(hf:∀j,j<N->sn us N j)(done:Nat->Prop){i0:Nat}(h0:i0<N)(hd0:¬done i0):∃i,i<N/\¬done i/\∀k∈us.getD i [],done k.toNat:=by
 refine uJ λhno=>?_;have hstep:∀i:{i:Nat // i<N/\¬done i},∃k:{k:Nat // k<N/\¬done k},(k.1:Int)∈us.getD i.1 []:=by
  rintro⟨i,hi,hnd⟩;refine uJ λh=>hno ⟨i,hi,hnd,λk hk=>uJ λhkd=>h ?_⟩;have hl:us.getD i []∈us:=by have:i<us.length:=(by rw[hg.1];exact hi);simp[this]
  have hr:=(hg.2.2 _ hl).2 k hk;exact⟨⟨k.toNat,by omega,hkd⟩,by show(k.toNat:Int)∈_;rw[Int.toNat_of_nonneg hr.1];exact hk⟩
 obtain⟨f,hfs⟩:=Classical.axiomOfChoice hstep
 let g:Nat->{i:Nat // i<N/\¬done i}:=λj=>Nat.rec ⟨i0,h0,hd0⟩ (λ _ x=>f x) j
 have hgs:∀j,((g (j+1)).1:Int)∈us.getD (g j).1 []:=λj=>hfs (g j);have hnd:¬((List.range (N+1)).map λj=>(g j).1).Nodup:=λh=>by
  have:=Hg N _ h λy hy=>by obtain⟨j,_,rfl⟩:=mem_map.1 hy;exact(g j).2.1
  rw[length_map,List.length_range]at this;omega
 obtain⟨a,b,hab,he⟩:∃a b,a<b/\(g a).1=(g b).1:=by refine uJ λh=>hnd ?_;rw[List.nodup_iff_pairwise_ne,List.pairwise_map];exact List.pairwise_lt_range.imp λ{x y} hxy e=>h ⟨x,y,hxy,e⟩
 obtain⟨d,F,hb,hneg⟩:=hf _ (g a).2.1;have hall:∀c,a<b-c->c<b-a->0<=d.getD (g (b-c)).1 0:=by
  intro c
  induction c with
  |zero=>intro _ _;rw[Nat.sub_zero,<- he,hb.hd.2];exact Int.le_refl _
  |succ c ih=>
   intro h1 h2;have:=ih (by omega) (by omega);have e:b-c=b-(c+1)+1:=(by omega);rw[e]at this;exact hb.back (g (b-(c+1))).2.1 (g (b-(c+1)+1)).2.1 (hgs (b-(c+1))) this
 have h1:=hall (b-a-1) (by omega) (by omega);have e:b-(b-a-1)=a+1:=by omega
 rw[e]at h1;have h2:=hneg _ (hgs a);simp only[Int.toNat_natCast]at h2;omega
theorem ac1{n N:Nat}{l:List Int}{done:List Bool}(hd:done.length=N)(hl:l.length<=4000000)(hr:∀k∈l,0<=k/\k<N)(hn:4000001<=n):
 ∃r,iC n l done=some (r,done)/\(r=false↔∀k∈l,done.getD k.toNat false=true):=by
 obtain⟨o,h1,h2⟩:=eO (step:=jS l) (λ i (v:Int×List Bool)=>v=((i:Int),done)/\i<=l.length/\∀k∈l.take i,done.getD k.toNat false=true)
  (λ o=>(o=.inl done/\∀k∈l,done.getD k.toNat false=true)\/∃i:Nat,o=.inr (i,done)/\∃k∈l,done.getD k.toNat false=false) l.length (λ k v h=>h.2.1) (by
  rintro i v ⟨rfl,hi,hall⟩;by_cases hlt:i<l.length;have hk:=hr l[i] (getElem_mem hlt);obtain⟨k,hk2⟩:=Int.eq_ofNat_of_zero_le hk.1;have hkN:k<done.length:=by omega
  have G0:done[k]=done.getD k false:=by simp[hkN]
  have htk:l.take (i+1)=l.take i++[l[i]]:=by rw[List.take_add_one,dD hlt];rfl
  simp only[jS,show decide ((i:Int)<l.length)=true from by simp;omega,aj,bf hlt,ai,aI,hk2,l8,bE hkN,bJ hkN,G0];cases hdk:done.getD k false with
  |true=>
   refine .inl ⟨_,by simp;rfl,by rw[bB (by omega)],hlt,λz hz=>?_⟩;rw[htk,bO]at hz;rcases hz with hz|hz;exact hall z hz;simp at hz;rw[hz,hk2];simpa using hdk
  |false=>exact .inr ⟨_,by simp,.inr ⟨i,rfl,l[i],getElem_mem hlt,by rw[hk2];simpa using hdk⟩⟩
  refine .inr ⟨.inl done,?_,.inl ⟨rfl,by rw[take_of_length_le (by omega)]at hall;exact hall⟩⟩;simp only[jS,show decide ((i:Int)<l.length)=false from by simp;omega,ax,aI,aj]) n 0 (0,done) ⟨rfl,Nat.zero_le _,by simp⟩ (by omega)
 rcases h2 with ⟨rfl,h2⟩|⟨i,rfl,k,hk,hkd⟩;exact⟨false,by simp[iC,mJ,h1],λ_=>h2,λ_=>rfl⟩;refine⟨true,by simp[iC,mJ,h1],λh=>(by cases h),λh=>?_⟩;rw[h k hk]at hkd;cases hkd
def Iv(us:List (List Int))(N:Nat)(done:List Bool)(i:Nat)(w:Int):Prop:=
 (w=-1/\∀j,j<i->¬(done.getD j false=false/\∀k∈us.getD j [],done.getD k.toNat false=true))\/∃j:Nat,w=j/\j<i/\done.getD j false=false
theorem aki{n N:Nat}{a0:oM}{done:List Bool}(hg:XG a0.uses N)(hd:a0.defs.length=N)(hl:done.length=N)(hn:4000002<=n):∃w,iter (iW n a0) n (-1,0,done)=some (w,done)/\Iv a0.uses N done N w:=by
 have hN:=hg.2.1;have DD:=hg.1;obtain⟨o,h1,w,rfl,h2⟩:=eO (step:=iW n a0) (λ i (v:Int×Int×List Bool)=>∃w,v=(w,(i:Int),done)/\i<=N/\Iv a0.uses N done i w) (λ o=>∃w,o=(w,done)/\Iv a0.uses N done N w) N (λ k v ⟨_,_,h,_⟩=>h) (by
  rintro i v ⟨w,rfl,hi,hw⟩;by_cases hlt:i<N;left;have hiu:i<a0.uses.length:=by omega
  have hid:i<a0.defs.length:=by omega
  have hib:i<done.length:=by omega
  have hl2:=hg.2.2 a0.uses[i] (getElem_mem hiu);obtain⟨r,hr1,hr2⟩:=ac1 (n:=n) hl hl2.1 hl2.2 (by omega);have hgi:a0.uses.getD i []=a0.uses[i]:=by simp[hiu]
  have hdi:done[i]=done.getD i false:=by simp[hib]
  simp only[iW,show decide ((i:Int)<a0.uses.length)=true from by simp;omega,aj,bf hiu,ai,aI,hr1,bE hib,bJ hib,hdi,aQ i];have keep:(done.getD i false=true\/r=true)->Iv a0.uses N done (i+1) w:=by intro hno;rcases hw with ⟨rfl,hw⟩|⟨j,rfl,hj,hw⟩;refine .inl ⟨rfl,λj hj h=>?_⟩;by_cases e:j=i;subst e;rw[hgi]at h;rcases hno with h3|h3;rw[h3]at h;exact absurd h.1 (by simp);have:=hr2.2 h.2;rw[h3]at this;cases this;exact hw j (by omega) h;exact .inr ⟨j,rfl,by omega,hw⟩
  cases hdn:done.getD i false with
  |true=>exact⟨_,by simp,w,rfl,hlt,keep (.inl hdn)⟩
  |false=>
   cases r with
   |true=>exact⟨_,by simp,w,rfl,hlt,keep (.inr rfl)⟩
   |false=>
    have an:Iv a0.uses N done (i+1) i:=.inr ⟨i,rfl,by omega,hdn⟩;rcases hw with ⟨rfl,hw⟩|⟨j,rfl,hj,hw⟩;exact⟨_,by simp,_,rfl,hlt,an⟩;have hjd:j<a0.defs.length:=(by omega);simp only[Bool.not_false,aj,show decide (j<0)=false from by simp,ax,bf hid,bf hjd,ai];cases Uc a0.defs[i].name a0.defs[j].name with
    |true=>exact⟨_,rfl,_,rfl,hlt,an⟩
    |false=>exact⟨_,rfl,_,rfl,hlt,.inr ⟨j,rfl,by omega,hw⟩⟩
  right;have hiN:i=N:=by omega
  refine⟨(w,done),?_,w,rfl,hiN ▸ hw⟩;simp only[iW,show decide ((i:Int)<a0.uses.length)=false from by simp;omega,ax,aI,aj]) n 0 (-1,0,done) ⟨_,rfl,Nat.zero_le _,.inl ⟨rfl,λj hj=>absurd hj (Nat.not_lt_zero _)⟩⟩ (by omega)
 exact⟨w,h1,h2⟩
theorem akj{n N:Nat}{a0:oM}(hg:XG a0.uses N)(hd:a0.defs.length=N)(hf:∀j,j<N->sn a0.uses N j)(hn:4000002<=n):∃l,nH n a0=some l/\l.length=N/\∀k∈l,0<=k/\k<N:=by
 have hN:=hg.2.1;have hmx:maxLen=9223372036854775807:=rfl
 obtain⟨o,h1,h2⟩:=eO (step:=kN n a0) (λ c (v:Int×List Int×List Bool)=>∃ab done,v=((c:Int),ab,done)/\c<=N/\ab.length=c/\(∀ k∈ab,0<=k/\k<N)/\done.length=N/\done.count false=N-c)
  (λ o=>o.length=N/\∀k∈o,0<=k/\k<N) N (λ k v ⟨_,_,_,h,_⟩=>h) (by
  rintro c v ⟨ab,done,rfl,hc,hol,hor,hdl,hcf⟩;by_cases hlt:c<N;left;have⟨w,hw1,hw2⟩:=aki (n:=n) hg hd hdl hn;have hopen:∃i0,i0<N/\done.getD i0 false=false:=by have hm:false∈done:=List.count_pos_iff.1 (by omega);obtain⟨i0,h0,e⟩:=mem_iff_getElem.1 hm;exact⟨i0,by omega,by simp[h0,e]⟩
  obtain⟨i0,h0,h0d⟩:=hopen;obtain⟨i,hi,hid,hia⟩:=alT hg hf (λ j=>done.getD j false=true) h0 (by rw[h0d];simp);rcases hw2 with ⟨rfl,hw2⟩|⟨j,rfl,hj,hjd⟩;exact absurd ⟨Bool.eq_false_iff.2 hid,hia⟩ (hw2 i hi);have hjl:j<done.length:=by omega
  have hap:bQ ab.length ab.length (sub [(j:Int)] 0 1).length 1 8=true:=by simp[bQ,sub];omega
  have hset:(done.set j true).length=done.length:=by simp
  refine⟨((c+1:Nat),ab++[(j:Int)],done.set j true),?_,_,_,rfl,hlt,by simp[hol],?_,by simp[hdl],?_⟩;simp only[kN,show decide ((c:Int)<a0.defs.length)=true from by simp;omega,aj,aI,hw1,ai,bE hjl,bJ hjl,hap,eu,aQ c,show(((0:Nat):Int)+j).toNat=j by omega,Ow hset.symm];simp[sub];intro k hk;rw[bO]at hk;rcases hk with hk|hk;exact hor k hk;simp at hk;subst hk;omega;have hjf:done[j]=false:=by simpa[List.getD,hjl]using hjd
  rw[List.count_set hjl,hcf,hjf];simp;omega;right;have:c=N:=by omega
  refine⟨ab,?_,by omega,hor⟩;simp only[kN,show decide ((c:Int)<a0.defs.length)=false from by simp;omega,ax,aI,aj]) n 0 (0,[],List.replicate N false) ⟨[],_,rfl,Nat.zero_le _,rfl,by simp,by simp,by simp⟩ (by omega)
 refine⟨o,?_,h2⟩;have hmk:ze N 1=true:=by simp[ze];omega
 simp only[nH,hd,Int.le_refl,decide_true,Bool.true_and,show decide (0<=N)=true from by simp,hmk,aj,Int.toNat_natCast,h1,ai,fF,aI];simp
def mL(ab:List aH)(s:aH):List aH:=
 match ab.getLast? with
 |some q=>bif decide (s.from_<=q.to)then ab.dropLast++[⟨q.from_,max q.to s.to⟩]else ab++[s]
 |none=>[s]
theorem Vk ab (s:aH):(mL ab s).length<=ab.length+1:=by
 unfold mL;cases ab.getLast? with
 |none=>simp
 |some q=>simp;cases decide (s.from_<=q.to)<;>simp<;>omega
theorem afu o (q s:aH):mL (o++[q]) s=bif decide (s.from_<=q.to)then o++[⟨q.from_,max q.to s.to⟩]else o++[q]++[s]:=by simp[mL]
abbrev uv(s:aH):Prop:=s.from_<s.to
def er(l:List aH)(y:Int):Bool:=l.any λs=>decide (s.from_<=y)&&decide (y<s.to)
def Can(l:List aH):Prop:=l.Pairwise (λ a b=>a.to<b.from_)/\∀s∈l,uv s
theorem tC l y:er l y=true↔∃s∈l,s.from_<=y/\y<s.to:=by simp[er]
theorem oU(l m:List aH) y:er (l++m) y=(er l y || er m y):=by simp[er]
theorem xB y:er [] y=false:=rfl
theorem mU(s:aH) l y:er (s::l) y=((decide (s.from_<=y)&&decide (y<s.to)) || er l y):=by simp[er]
theorem ac2{l m:List aH}(h:l.Perm m) y:er l y=er m y:=by rw[dw,tC,tC];exact⟨λ ⟨s,hs,h1⟩=>⟨s,h.mem_iff.1 hs,h1⟩,λ⟨s,hs,h1⟩=>⟨s,h.mem_iff.2 hs,h1⟩⟩
theorem W5:Can []:=⟨List.Pairwise.nil,by simp⟩
theorem akk{ab:List aH}{s:aH}(hc:Can ab)(hs:uv s)(hb:∀o∈ab,o.from_<=s.from_):
 Can (mL ab s)/\(∀ o∈mL ab s,o.from_<=s.from_)/\∀y,er (mL ab s) y=(er ab y || er [s] y):=by rcases List.eq_nil_or_concat ab with rfl|⟨o,q,rfl⟩;refine⟨⟨by simp[mL],by simp[mL];exact hs⟩,by simp[mL],λy=>by simp[mL,er]⟩;rw[List.concat_eq_append]at*;obtain⟨h1,h2⟩:=hc;rw[pairwise_append]at h1;obtain⟨p1,_,p3⟩:=h1;have hq:uv q:=h2 q (by simp);have hqs:q.from_<=s.from_:=hb q (by simp);rw[afu];by_cases hj:s.from_<=q.to;simp only[hj,decide_true,aj];refine⟨⟨?_,?_⟩,?_,?_⟩;rw[pairwise_append];refine⟨p1,by simp,λa ha b hb'=>?_⟩;rw[aZ]at hb';subst hb';exact p3 a ha q (by simp);intro a ha;rcases bO.1 ha with ha|ha;exact h2 a (by simp[ha]);rw[aZ]at ha;subst ha;show q.from_<max q.to s.to;have:q.from_<q.to:=hq;omega;intro a ha;rcases bO.1 ha with ha|ha;exact hb a (by simp[ha]);rw[aZ]at ha;subst ha;exact hqs;intro y;rw[oU,oU,Bool.or_assoc];congr 1;simp[mU,xB];rw[dw];simp;have:q.from_<q.to:=hq;have:s.from_<s.to:=hs;omega;simp only[hj,decide_false,ax];refine⟨⟨?_,?_⟩,?_,?_⟩;rw[pairwise_append];refine⟨?_,by simp,λa ha b hb'=>?_⟩;rw[pairwise_append];exact⟨p1,by simp,p3⟩;rw[aZ]at hb';subst hb';rcases bO.1 ha with ha|ha;have:=p3 a ha q (by simp);have:q.from_<q.to:=hq;omega;rw[aZ]at ha;subst ha;omega;intro a ha;rcases bO.1 ha with ha|ha;exact h2 a ha;rw[aZ]at ha;subst ha;exact hs;intro a ha;rcases bO.1 ha with ha|ha;exact hb a ha;rw[aZ]at ha;subst ha;exact Int.le_refl _;intro y;rw[oU]
theorem OL:∀(l ab:List aH),Can ab->(∀ s∈l,uv s)->l.Pairwise (λ x y=>x.from_<=y.from_)->(∀ o∈ab,∀s∈l,o.from_<=s.from_)->Can (l.foldl mL ab)/\∀y,er (l.foldl mL ab) y=(er ab y || er l y)
 |[],ab,hc,_,_,_=>⟨hc,λy=>by simp[xB]⟩
 |s::l,ab,hc,hv,hp,hb=>by rw[pairwise_cons]at hp;obtain⟨m1,m2,m3⟩:=akk hc (hv s (by simp)) (λ o ho=>hb o ho s (by simp));obtain⟨f1,f2⟩:=OL l (mL ab s) m1 (λ t ht=>hv t (by simp[ht])) hp.2 (λ o ho t ht=>Int.le_trans (m2 o ho) (hp.1 t ht));refine⟨f1,λy=>?_⟩;rw[foldl_cons,f2,m3,Bool.or_assoc,<- oU];rfl
theorem ac3{a:aH}{l:List aH}(h:Can (a::l)):Can l:=⟨(pairwise_cons.1 h.1).2,λs hs=>h.2 s (by simp[hs])⟩
theorem Jd{a:aH}{l:List aH}(h:Can (a::l)){y:Int}(hy:er l y=true):a.to<y:=by obtain⟨s,hs,h1,_⟩:=(tC _ _).1 hy;have:=(pairwise_cons.1 h.1).1 s hs;omega
theorem Zd{a:aH}{l:List aH}(h:Can (a::l)){y:Int}(hy:er (a::l) y=true):a.from_<=y:=by rw[mU,Bool.or_eq_true]at hy;rcases hy with hy|hy;simp at hy;exact hy.1;have:=Jd h hy;have:a.from_<a.to:=h.2 a (by simp);omega
theorem Ky:∀{l m:List aH},Can l->Can m->(∀ y,er l y=er m y)->l=m
 |[],[],_,_,_=>rfl
 |[],b::m,_,hm,h=>by have:=h b.from_;have hb:b.from_<b.to:=hm.2 b (by simp);rw[xB,mU]at this;simp[hb]at this
 |a::l,[],hl,_,h=>by have:=h a.from_;have ha:a.from_<a.to:=hl.2 a (by simp);rw[xB,mU]at this;simp[ha]at this
 |a::l,b::m,hl,hm,h=>by
  have ha:a.from_<a.to:=hl.2 a (by simp);have hb:b.from_<b.to:=hm.2 b (by simp);have ina:er (a::l) a.from_=true:=by rw[mU];simp[ha]
  have PH:er (b::m) b.from_=true:=by rw[mU];simp[hb]
  have e1:a.from_=b.from_:=by have h1:=Zd hm (by rw[<- h];exact ina);have h2:=Zd hl (by rw[h];exact PH);omega
  have nl:∀(c:aH) k,Can (c::k)->er (c::k) c.to=false:=by
   intro c k hk;cases hc:er (c::k) c.to with
   |false=>rfl
   |true=>
    rw[mU,Bool.or_eq_true]at hc;rcases hc with hc|hc;simp at hc;have:=Jd hk hc;omega
  have e2:a.to=b.to:=by rcases Int.lt_trichotomy a.to b.to with hlt|he|hlt;have h1:=nl a l hl;rw[h,mU]at h1;simp at h1;omega;exact he;have h1:=nl b m hm;rw[<- h,mU]at h1;simp at h1;omega
  have e:a=b:=by cases a;cases b;simp at e1 e2;rw[e1,e2]
  subst e;rw[Ky (ac3 hl) (ac3 hm) λy=>?_];have hy:=h y;rw[mU,mU]at hy;cases h1:er l y with
  |true=>
   have:=Jd hl h1;have z:(decide (a.from_<=y)&&decide (y<a.to))=false:=(by rw[Bool.and_eq_false_iff,dU,dU];omega);rw[z,h1,Bool.false_or,Bool.false_or]at hy;rw[<- hy]
  |false=>
   cases h2:er m y with
   |false=>rfl
   |true=>
    have:=Jd hm h2;have z:(decide (a.from_<=y)&&decide (y<a.to))=false:=(by rw[Bool.and_eq_false_iff,dU,dU];omega);rw[z,h1,h2]at hy;simp at hy
def Rb(l:List aH):List aH:=(iy q6 l).foldl mL []
theorem akl{l:List aH}(h:l.Pairwise λx y=>q6 y x=false):l.Pairwise λx y=>x.from_<=y.from_:=
 h.imp λ{x y} hxy=>by simp at hxy;omega
theorem OM{l:List aH}(h:∀s∈l,uv s):Can (Rb l)/\∀y,er (Rb l) y=er l y:=by have hp:=yC q6 l;obtain⟨h1,h2⟩:=OL (iy q6 l) [] W5 (λ s hs=>h s (hp.mem_iff.1 hs)) (akl (ajQ MK l)) (by simp);exact⟨h1,λy=>by rw[Rb,h2,xB,Bool.false_or,ac2 hp]⟩
theorem aik{l:List aH}(h:∀s∈l,uv s):(mX q6 l).foldl mL []=Rb l:=by have hp:=DR MK l;obtain⟨h1,h2⟩:=OL (mX q6 l) [] W5 (λ s hs=>h s (hp.mem_iff.1 hs)) (akl (DT MK l)) (by simp);have⟨h3,h4⟩:=OM h;exact Ky h1 h3 λy=>by rw[h2,xB,Bool.false_or,ac2 hp,h4]
theorem ac4 l:(Rb l).length<=l.length:=by
 have:∀(ys ab:List aH),(ys.foldl mL ab).length<=ab.length+ys.length:=by
  intro ys
  induction ys with
  |nil=>intro ab;simp
  |cons y ys ih=>
   intro ab;simp;have:=ih (mL ab y);have:=Vk ab y;omega
 have h:=this (iy q6 l) [];rw[dR]at h;simpa[Rb]using h
abbrev cI(r:au):Bool:=decide (0<=r.x0)&&(decide (r.x0<r.x1)&&(decide (r.x1<=1048576)&&(decide (0<=r.y0)&&(decide (r.y0<r.y1)&&decide (r.y1<=1048576)))))
theorem My(a b:Bool):(bif a then some b else some false)=some (a&&b):=by cases a<;>rfl
theorem jc(r:au):oC r=some (cI r):=by simp[oC,My]
def fe(l:List au)(x:Int):List aH:=(l.filter λr=>decide (r.x0<=x)&&decide (x<r.x1)).map λr=>⟨r.y0,r.y1⟩
def bL(l:List au)(x:Int):List aH:=Rb (fe l x)
theorem Hl l x:(fe l x).length<=l.length:=by simp[fe];exact length_filter_le _ _
theorem yI l x:(bL l x).length<=l.length:=
 Nat.le_trans (ac4 _) (Hl l x)
theorem anX{r:au}(h:cI r=true):r.y0<r.y1:=by simp at h;omega
theorem Vl{l:List au}(h:∀r∈l,cI r=true) x:∀s∈fe l x,uv s:=by intro s hs;simp[fe]at hs;obtain⟨r,⟨hr,_⟩,rfl⟩:=hs;exact anX (h r hr)
theorem OO{l:List au}{x:Int}(hl:l.length<1099511627776){n:Nat}(hn:l.length<n):iter (sj l x) n (0,[])=some (fe l x):=by
 have:=gm (l:=l) (step:=sj l x) (λ i s=>(i,s)) (λ r s=>bif decide (r.x0<=x)&&decide (x<r.x1)then s++[⟨r.y0,r.y1⟩]else s) (λ s=>s) (λ i s=>s.length<=i)
  (λ i hi s hs=>?_) (λ s hs=>by simp[sj]) n hn [] (aB _)
 rw[k8]at this;rw[this];congr 1;have gen:∀ys s,ys.foldl (λ s r=>bif decide (r.x0<=x)&&decide (x<r.x1)then s++[⟨r.y0,r.y1⟩]else s) s=s++fe ys x:=by
  intro ys
  induction ys with
  |nil=>intro s;simp[fe]
  |cons y ys ih=>
   intro s;simp[ih];cases h:(decide (y.x0<=x)&&decide (x<y.x1))with
   |true|false=>simp[fe,h]
 simpa using gen l [];have hi':decide ((i:Int)<l.length)=true:=by simpa using hi
 have ap:bQ s.length s.length (sub ([(aH.mk l[i].y0 l[i].y1)]:List aH) 0 1).length 1 16=true:=dP (n:=1) (by omega) (by simp[maxLen];omega);simp only[sj,hi',aj,bf hi,ai,My];cases h:(decide (l[i].x0<=x)&&decide (x<l[i].x1))with
 |true=>
  simp only[aj,ap,eu,aI,ai];refine⟨?_,by simp;omega⟩;rw[bB (by omega)];rfl
 |false=>
  simp only[ax,aI,aj,ai];exact⟨by rw[bB (by omega)],by omega⟩
theorem OQ(w1 r2:List aH)(hw:w1.length=r2.length)(hl:r2.length<1099511627776)(hn:r2.length<n):iter (sw w1 r2) n (0,[])=some (r2.foldl mL []):=by
 have:=gm (l:=r2) (step:=sw w1 r2) (λ i s=>(i,s)) (λ r s=>mL s r) (λ s=>s) (λ i s=>s.length<=i)
  (λ i hi s hs=>?_) (λ s hs=>by simp[sw,hw]) n hn [] (aB _)
 rw[k8]at this;exact this;refine⟨?_,by have:=Vk s r2[i];omega⟩;have hi':decide ((i:Int)<(w1.length:Nat))=true:=by simp;omega
 have ib:cP i w1.length=true:=bE (by omega);have ap:bQ s.length s.length (sub ([r2[i]]:List aH) 0 1).length 1 16=true:=dP (n:=1) (by omega) (by simp[maxLen];omega);simp only[sw,hi',aj,ib,bJ hi,ai];rcases List.eq_nil_or_concat s with rfl|⟨s0,q,GO⟩;have d0:decide ((([]:List aH).length:Nat)>0)=false:=by simp
 simp;rw[bB (by omega)];rfl;rw[List.concat_eq_append]at GO;subst GO;have d0:decide (((((s0++[q]).length:Nat):Int))>0)=true:=by simp<;>omega
 have y6:(s0++[q]).length=s0.length+1:=by simp
 have wp:i64.wrap (((s0++[q]).length:Nat)-1)=(s0.length:Nat):=by rw[mM (by simp) (by omega),y6];rfl
 have PJ:cP (s0.length:Nat) (s0++[q]).length=true:=bE (by omega);have g:cd (s0++[q]) ((0:Nat)+(s0.length:Nat))=some q:=by rw[IW];simp
 have z:(((0:Nat):Int)+(s0.length:Nat)).toNat=s0.length:=by simp
 have st:(s0++[q]).set s0.length (aH.mk q.from_ (max q.to r2[i].to))=s0++[⟨q.from_,max q.to r2[i].to⟩]:=by simp
 have m:mL (s0++[q]) r2[i]=bif decide (r2[i].from_<=q.to)then s0++[⟨q.from_,max q.to r2[i].to⟩]else s0++[q]++[r2[i]]:=by simp[mL]
 simp only[d0,aj,wp,PJ,g,ai,m,z,st];cases decide (r2[i].from_<=q.to)with
 |true=>
  have e:be (s0++[q]).length (s0++[(⟨q.from_,max q.to r2[i].to⟩:aH)]).length=true:=by simp
  simp only[aj,e,ai,aI];rw[bB (by omega)]
 |false=>
  simp only[ax,ap,aj,eu,aI,ai];rw[bB (by omega)];rfl
theorem aaR{l:List au}{x:Int}(hv:∀r∈l,cI r=true)(hl:l.length<1099511627776)(hn:l.length<n):I7 n l x=some (bL l x):=by have h1:=Hl l x;have h2:(mX q6 (fe l x)).length=(fe l x).length:=DU MK _;unfold I7;simp[OO (x:=x) (l:=l) (by omega) (n:=n) (by omega)];rw[Jk (λ a b=>if a.from_<b.from_ then -1 else if b.from_<a.from_ then 1 else 0) (λ a b=>by show wV a b=_;unfold wV;rw[kG];rfl) (λ a b=>by by_cases h1:a.from_<b.from_;simp[h1];by_cases h2:b.from_<a.from_<;>simp[h1,h2]) (by omega) (by omega)];simp;rw[OQ _ _ h2.symm (by omega) (by omega)];simp;rw[aik (Vl hv x)];rfl
def eF(l:List au):List Int:=wa (l.flatMap λr=>[r.x0,r.x1])
def eG{α:Type}(f:Int->Int->α):List Int->List α
 |a::b::l=>f a b::eG f (b::l)
 |_=>[]
def aV(l:List au):List aY:=eG (λ a b=>⟨a,b,bL l a⟩) (eF l)
theorem qU{α:Type}(f:Int->Int->α):∀l,(eG f l).length=l.length-1/\∀i (h:i+1<l.length) (h':i<(eG f l).length),(eG f l)[i]=f l[i] l[i+1]
 |[]|[a]=>⟨rfl,λi h=>by simp at h⟩
 |a::b::l=>by
  have⟨h1,h2⟩:=qU f (b::l);refine⟨by simp only[eG,fG,h1];simp,λi h h'=>?_⟩;cases i with
  |zero=>rfl
  |succ i=>
   simp;exact h2 i (by simpa using h) _
theorem wm(l:List au):(l.flatMap λr=>[r.x0,r.x1]).length=2*l.length:=by
 induction l with
 |nil=>rfl
 |cons x l ih=>simp[ih];omega
theorem qK l:(iT l).length<=l.length:=by
 match l with
 |[]|[x]=>simp[iT]
 |x::y::l=>
  have:=qK (y::l);simp[iT];cases x==y<;>simp at* <;>omega
theorem J2 l:(eF l).length<=2*l.length:=by have h:=qK (iy (λ a b=>decide (a<b)) (l.flatMap λr=>[r.x0,r.x1]));rw[dR,wm]at h;exact h
theorem OT{l:List au}(hl:l.length<10995116277)(hn:l.length<n):iter (sD l) n (0,[])=some (l.flatMap λr=>[r.x0,r.x1]):=by
 have:=gm (l:=l) (step:=sD l) (λ i s=>(i,s)) (λ r s=>s++[r.x0,r.x1]) (λ s=>s) (λ i s=>s.length<=2*i)
  (λ i hi s hs=>?_) (λ s hs=>by simp[sD]) n hn [] (aB _)
 rw[k8]at this;rw[this];have gen:∀(ys:List au) s,ys.foldl (λ s r=>s++[r.x0,r.x1]) s=s++ys.flatMap λr=>[r.x0,r.x1]:=by
  intro ys
  induction ys with
  |nil=>intro s;simp
  |cons y ys ih=>intro s;simp[ih]
 congr 1;simpa using gen l [];have hi':decide ((i:Int)<(l.length:Nat))=true:=by simpa using hi
 have ap:bQ s.length s.length (sub ([l[i].x0,l[i].x1]:List Int) 0 2).length 2 8=true:=dP (n:=2) (by omega) (by simp[maxLen];omega);simp only[sD,hi',aj,bE hi,bJ hi,ai,ap,eu,aI];refine⟨?_,by simp;omega⟩;rw[bB (by omega)];rfl
theorem xC{ls:List (List au)}(hv:∀r∈ls.flatten,cI r=true)(hl:ls.flatten.length<10995116277)(hls:ls.length<1099511627776)(hn:2*ls.flatten.length<n)(hn2:ls.length<n):nX n ls=some (aV ls.flatten):=by
 unfold nX;rw[MJ (by omega) hls hn2];generalize ls.flatten=l at*;have he:=J2 l;simp[OT (l:=l) (n:=n) (by omega) (by omega)];rw[oQ (by rw[wm];omega) (by rw[wm];omega)];simp only[ai,dR,aI,aj];rw[tu (by rw[dR,wm];omega) (by rw[dR,wm];omega)];simp only[ai];have hE:iT (iy ke (l.flatMap λr=>[r.x0,r.x1]))=eF l:=rfl;rw[hE];obtain⟨p1,p2⟩:=qU (λ a b=>(⟨a,b,bL l a⟩:aY)) (eF l);have key:iter (sF n l ((),eF l)) n (1,[])=some (aV l):=by
  have:=mF (step:=sF n l ((),eF l)) (λ i=>((i+1:Nat),(aV l).take i)) (aV l).length (aV l) (λ i hi=>?_) ?_ n (by unfold aV;omega);simpa using this;have hi2:i+1<(eF l).length:=by unfold aV at hi;omega
  have d:decide (((i+1:Nat):Int)<((eF l).length:Nat))=true:=by simp;omega
  have wp:i64.wrap ((i+1:Nat)-1)=(i:Nat):=by rw[mM (by omega) (by omega)];rfl
  have ap:bQ ((aV l).take i).length ((aV l).take i).length (sub ([(aY.mk ((eF l)[i]'(by omega)) (eF l)[i+1] (bL l ((eF l)[i]'(by omega))))]:List aY) 0 1).length 1 40=true:=by refine dP (n:=1) ?_ ?_;rw[length_take];unfold aV;omega;rw[length_take];unfold aV;simp[maxLen];omega
  have tk:(aV l).take (i+1)=(aV l).take i++[⟨(eF l)[i]'(by omega),(eF l)[i+1],bL l ((eF l)[i]'(by omega))⟩]:=by rw[jr hi];congr 2;exact p2 i hi2 hi
  simp only[sF,d,aj,wp,bE (show i<(eF l).length by omega),bJ (show i<(eF l).length by omega),ai,bE hi2,bJ hi2,fF,aI,aaR (l:=l) (n:=n) hv (by omega) (by omega),ap,eu];rw[bB (by omega),tk];rfl;have d:decide ((((aV l).length+1:Nat):Int)<((eF l).length:Nat))=false:=by unfold aV;simp;omega
  simp only[sF,d,ax,List.take_length,aI,aj]
 rw[key];simp
def jZ(x0 x1:Int)(c:List aH):List au:=c.map λq=>⟨x0,q.from_,x1,q.to⟩
def Rc(x0 x1:Int)(c:List aH):List aY->List au
 |[]=>jZ x0 x1 c
 |s::l=>if s.column=c then Rc x0 s.x1 c l else jZ x0 x1 c++Rc s.x0 s.x1 s.column l
def gI:List aY->List au
 |[]=>[]
 |s::l=>Rc s.x0 s.x1 s.column l
theorem Ze x0 c:∀(l:List aY) x1 (k:Nat) (hk:k<=l.length),(∀ j (hj:j<k),(l[j]'(by omega)).column=c)->(∀ h:k<l.length,l[k].column≠c)->
 Rc x0 x1 c l=jZ x0 (if h:0<k then(l[k-1]'(by omega)).x1 else x1) c++gI (l.drop k)
 |l,x1,0,_,_,h2=>by
  cases l with
  |nil=>simp[Rc,gI]
  |cons s l=>
   have:=h2 (by simp);simp at this;simp[Rc,gI,this]
 |[],x1,k+1,hk,_,_=>by simp at hk
 |s::l,x1,k+1,hk,h1,h2=>by
  have e0:=h1 0 (by omega);simp at e0;simp[Rc,e0];rw[Ze x0 c l s.x1 k (by simpa using hk) (λ j hj=>by have:=h1 (j+1) (by omega);simpa using this) (λ h=>by have:=h2 (by simpa using h);simpa using this)];simp;congr 2;by_cases hk0:0<k;simp[hk0];obtain⟨m,rfl⟩:∃m,k=m+1:=⟨k-1,by omega⟩;simp;have:k=0:=by omega
  subst this;simp
theorem Rf{l:List aY}{i k:Nat}(hi:i<l.length)(hk1:0<k)(hk:k<=l.length)(hl:l.length<10995116277)(x3:aY) ab (ho:ab.length<1099511627776) (hc:x3.column.length<1099511627776) (hn:x3.column.length<n):
 iter (vS l i k x3) n (0,ab)=some (ab++jZ l[i].x0 (l[k-1]'(by omega)).x1 x3.column):=by
 have:=gm (l:=x3.column) (step:=vS l i k x3) (λ j s=>(j,s)) (λ q s=>s++[⟨l[i].x0,q.from_,(l[k-1]'(by omega)).x1,q.to⟩]) (λ s=>s) (λ j s=>s.length<=ab.length+j)
  (λ j hj s hs=>?_) (λ s hs=>by simp[vS]) n hn ab (aB _)
 rw[k8]at this;rw[this];have gen:∀ys s,ys.foldl (λ s q=>s++[⟨l[i].x0,q.from_,(l[k-1]'(by omega)).x1,q.to⟩]) s=s++jZ l[i].x0 (l[k-1]'(by omega)).x1 ys:=by
  intro ys
  induction ys with
  |nil=>intro s;simp[jZ]
  |cons y ys ih=>intro s;simp[ih];simp[jZ]
 rw[gen];have hj':decide ((j:Int)<x3.column.length)=true:=by simpa using hj
 have wp:i64.wrap (k-1)=(k-1:Nat):=mM hk1 (by omega);have ap:bQ s.length s.length (sub ([(au.mk l[i].x0 (x3.column[j]).from_ (l[k-1]'(by omega)).x1 (x3.column[j]).to)]:List au) 0 1).length 1 32=true:=dP (n:=1) (by omega) (by simp[maxLen];omega);simp only[vS,hj',aj,bf hj,bf hi,wp,bf (show k-1<l.length by omega),ai,ap,eu,aI];refine⟨?_,by simp;omega⟩;rw[bB (by omega)];rfl
theorem Qx{l:List aY}{b:Nat}(hb:b<=100000)(hl:l.length<=100000)(hc:∀s∈l,s.column.length<=b)(hn:b<n)(hn2:l.length<n):G5 n l=some (gI l):=by
 unfold G5;simp only[length_nil,aI,aj];have main:∀(m i:Nat)(ab:List au)(k:Nat),i+m=l.length->m<k->ab.length<=i*b->iter (vT n l) k ((i:Int),ab)=some (ab++gI (l.drop i)):=by
  intro m
  induction m using Nat.strongRecOn with
  |ind m ih=>
   intro i ab k him hk ho;obtain⟨k,rfl⟩:∃j,k=j+1:=⟨k-1,by omega⟩;by_cases hm:m=0;subst hm;have:i=l.length:=(by omega);subst this;refine jl ?_;simp[vT,gI];have hi:i<l.length:=(by omega);have di:decide ((i:Int)<(l.length:Int))=true:=(by simpa using hi);obtain⟨q,hq1,hq2,hq3,hq4⟩:∃q,i<q/\q<=l.length/\(∀ j,i<j->j<q->∀h:j<l.length,l[j].column=l[i].column)/\(∀ h:q<l.length,l[q].column≠l[i].column):=(by rcases JX (λ j=>if h:j<l.length then decide (l[j].column≠l[i].column)else false) (i+1) l.length with ⟨q,h1,h2,h3,h4⟩|h;simp[h2]at h3;refine⟨q,by omega,by omega,λj hj1 hj2 hj=>?_,λ_=>h3⟩;have:=h4 j (by omega) hj2;simp[hj,Decidable.not_not]at this;exact this;refine⟨l.length,hi,aB _,λj hj1 hj2 hj=>?_,λh=>by omega⟩;have:=h j (by omega) hj;simp[hj,dite_true,dU,ne_eq,Decidable.not_not]at this;exact this);have cl:∀j (hj:j<l.length),l[j].column.length<=b:=λj hj=>hc _ (getElem_mem hj);have r2:iter (rf n l (i:Int)) n (i64.wrap ((i:Int)+1))=some (q:Int):=(by rw[bB (by omega)];have:=mF (step:=rf n l (i:Int)) (λ j=>((i+1+j:Nat):Int)) (q-(i+1)) q (λ j hj=>?_) ?_ n (by omega);simpa using this;have hjl:i+1+j<l.length:=(by omega);have dj:decide (((i+1+j:Nat):Int)<l.length)=true:=(by simp;omega);have hcc:=cl (i+1+j) hjl;simp only[rf,dj,aj,bf hjl,bf hi,ai];rw[Co (by omega) (by omega),hq3 (i+1+j) (by omega) (by omega) hjl];simp only[decide_true,ai,aj];rw[bB (by omega)];rfl;rw[show i+1+(q-(i+1))=q by omega];by_cases wA:q<l.length;have dj:decide ((q:Nat)<l.length)=true:=(by simpa using wA);have hcc:=cl q wA;simp[rf,dj,aj,bf wA,bf hi,ai];rw[Co (by omega) (by omega)];simp[hq4 wA];have dj:decide ((q:Int)<l.length)=false:=(by simp;omega);simp only[rf,dj,ax,ai]);have ob:i*b<=100000*100000:=Nat.mul_le_mul (by omega) hb;have hci:=cl i hi;have r3:=Rf (n:=n) hi (show 0<q by omega) hq2 (by omega) l[i] ab (by omega) (by omega) (by omega);have step:vT n l (i,ab)=some (.inl (q,ab++jZ l[i].x0 (l[q-1]'(by omega)).x1 l[i].column)):=(by simp only[vT,di,aj,r2,bf hi,ai,aI,r3]);rw[mO step,ih (l.length-q) (by omega) q _ k (by omega) (by omega) (by rw[eZ,jZ,length_map];have:(i+1)*b<=q*b:=Nat.mul_le_mul_right _ (by omega);rw[Nat.add_mul]at this;omega)];rw[aR];congr 2
   conv=>rhs;rw[List.drop_eq_getElem_cons hi]
   simp[gI];rw[Ze l[i].x0 l[i].column (l.drop (i+1)) l[i].x1 (q-(i+1)) (by rw[length_drop];omega) (λ j hj=>by rw[getElem_drop];exact hq3 _ (by omega) (by omega) (by omega)) (λ h=>by rw[length_drop]at h;rw[getElem_drop];have:=hq4 (by omega);have hqq:i+1+(q-(i+1))=q:=(by omega);simp[hqq];exact this)];rw[List.drop_drop,show i+1+(q-(i+1))=q by omega];congr 2;by_cases h0:0<q-(i+1);simp[h0,dite_true,getElem_drop];congr 2;omega;simp[h0,dite_false];have:q-1=i:=(by omega);congr 2
 have:=main l.length 0 [] n (by omega) (by omega) (by simp);simp[Int.natCast_zero,fM,List.drop_zero]at this;rw[this];simp
def pc(l:List au):List au×Int:=
 if l.all cI then(if l.length>400 then([],6)else if (gI (aV l)).length>200 then([],6)else(gI (aV l),0))else([],1)
def cm(l:List au):Bool:=decide ((pc l).2=0)&&decide ((pc l).1=l)
theorem ac5{l:List au}{s:aY}(h:s∈aV l):s.column.length<=l.length:=by obtain⟨i,hi,rfl⟩:=List.getElem_of_mem h;obtain⟨p1,p2⟩:=qU (λ a b=>(⟨a,b,bL l a⟩:aY)) (eF l);have:(aV l)[i]=⟨(eF l)[i]'(by unfold aV at hi;omega),(eF l)[i+1]'(by unfold aV at hi;omega),bL l ((eF l)[i]'(by unfold aV at hi;omega))⟩:=p2 i (by unfold aV at hi;omega) hi;rw[this];exact yI l _
theorem tF l:(aV l).length<=2*l.length:=by obtain⟨p1,_⟩:=qU (λ a b=>(⟨a,b,bL l a⟩:aY)) (eF l);have:=J2 l;unfold aV;omega
theorem akm{l:List au}(hl:l.length<1099511627776)(hl2:l.length<n)(hn:1000<=n):Lz n l=some (pc l):=by
 unfold Lz;have h1:=qZ (l:=l) (step:=Mx l) (λ i=>i) (λ r=>!cI r) () (λ _=>([],1)) (λ i hi=>?_) ?_ n (by omega);rw[k8]at h1;rw[h1];have h2:=rV (λ r=>!cI r) l;cases hf:oq (λ r=>!cI r) l with
 |some i=>
  rw[hf]at h2;have:l.all cI=false:=by rw[<- Bool.not_eq_true,all_eq_true];intro hall;have h3:=h2.symm;simp only[Option.isSome_some,any_eq_true]at h3;obtain⟨x,hx,hx2⟩:=h3;rw[hall x hx]at hx2;cases hx2
  simp[pc,this]
 |none=>
  rw[hf]at h2;have:l.all cI=true:=by
   rw[all_eq_true];intro x hx;cases h:cI x with
   |true=>rfl
   |false=>
    have:l.any (λ r=>!cI r)=true:=any_eq_true.2 ⟨x,hx,by rw[h];rfl⟩;rw[this]at h2;cases h2
  have hv:∀r∈l,cI r=true:=all_eq_true.1 this;by_cases Hd:l.length>400;have d4:decide ((l.length:Int)>400)=true:=by simp;omega
  simp[d4,pc,this,bA Hd];have d4:decide ((l.length:Int)>400)=false:=by simp;omega
  have ls:=tF l;simp[d4];have fl:[l].flatten=l:=by simp
  rw[show (sub ([l]:List (List au)) 0 1)=[l]from rfl,xC (ls:=[l]) (by rw[fl];exact hv) (by rw[fl];omega) (by simp) (by rw[fl];omega) (by simp;omega),fl];simp;rw[Qx (b:=400) (by omega) (by omega) (λ s hs=>Nat.le_trans (ac5 hs) (by omega)) (by omega) (by omega)];simp[yE,pc,this,bn Hd];by_cases pj:(gI (aV l)).length>200;have:decide (((gI (aV l)).length:Int)>200)=true:=by simp;omega
  simp[this,pj];have:decide (((gI (aV l)).length:Int)>200)=false:=by simp;omega
  simp[this,pj]
 have hi':decide ((i:Int)<l.length)=true:=by simpa using hi
 simp only[Mx,hi',aj,bf hi,ai,jc];cases cI l[i]with
 |false=>rfl
 |true=>simp only[Bool.not_true,ax];rw[bB (by omega)]
 simp[Mx]
theorem iM{l:List au}(hl:l.length<1099511627776)(hl2:l.length<n)(hn:1000<=n):kr n l=some (cm l):=by
 unfold kr cm;rw[akm hl hl2 hn];simp;by_cases h:(pc l).2=0;have e:((pc l).2==0)=true:=by simp[h]
 have lo:(pc l).1.length<=200:=by unfold pc;split;split;simp;split;simp;simp;omega;simp
 by_cases hlen:(pc l).1.length<n;simp only[h,decide_true,Bool.true_and];rw[Cn (by omega) hlen];rfl;have:(pc l).1.length≠l.length:=by omega
 have hne:(pc l).1≠l:=λe=>this (by rw[e]);simp[h];unfold nY;have hb:(((pc l).1.length:Int) !=l.length)=true:=by simp;omega
 rw[hb];simp[hne];have e:((pc l).2==0)=false:=by simp[h]
 simp[e,h]
theorem OU{α:Type} c (a b:α):(bif c then some a else some b)=some (bif c then a else b):=by cases c<;>rfl
theorem Zf(i n:Nat):Int.tmod (i:Int) (n:Int)=(i%n:Nat):=by rw[Int.tmod_eq_emod_of_nonneg (by omega)];omega
theorem cu{i n:Nat}(h:i<n):decide ((i:Int)<(n:Nat))=true:=by simpa using h
theorem nT(n:Nat):decide ((n:Int)<(n:Nat))=false:=by simp
theorem ahh{k b:Nat}(h:k*b<=140737488355328)(h2:k<=maxLen):ze k b=true:=by
 have e:((k:Int)).toNat=k:=by omega
 simp only[ze,bq,bM,e];exact⟨⟨by omega,h⟩,h2⟩
def mz(p:List bK)(i:Nat):bK:=p.getD i ⟨0,0⟩
def fK(p:List bK)(i:Nat):iH:=⟨(mz p i).x,(mz p i).y,(mz p ((i+1)%p.length)).x,(mz p ((i+1)%p.length)).y⟩
def fC(p:List bK):List iH:=(List.range p.length).map (fK p)
theorem SB{p:List bK}{i:Nat}(h:i<p.length):mz p i=p[i]:=by simp[mz,h]
theorem dM p:(fC p).length=p.length:=by simp[fC]
theorem yJ{p:List bK}{i:Nat}(h:i<(fC p).length):(fC p)[i]=fK p i:=by simp[fC]
theorem akn{α:Type}(A B:List α)(z x:α):(A++z::B).set A.length x=A++x::B:=by rw[List.set_append_right _ _ (aB _),Nat.sub_self];rfl
theorem Ab{p:List bK}(hl:p.length<=100000)(hn:p.length<n):oP n p=some (fC p):=by
 unfold oP;have mk:ze (p.length:Nat) 32=true:=ahh (by omega) (by show p.length<=2 ^ 63-1;omega);have main:=mF (step:=oF p) (λ i=>((i:Nat),(List.range i).map (fK p)++List.replicate (p.length-i) (iH.mk 0 0 0 0))) p.length (fC p) (λ i hi=>?_) ?_ n hn;have z:((p.length:Int)).toNat=p.length:=by omega
 simp only[List.range_zero,List.map_nil,fM,Nat.sub_zero]at main;have d1:decide ((p.length:Int)<=(p.length:Nat))=true:=by simp
 have d2:decide ((0:Int)<=(p.length:Nat))=true:=by simp
 rw[mk,d1,d2,z];simp;rw[k8]at main;rw[main];simp;have e:sub (fC p) 0 p.length=fC p:=by rw[<- dM p];exact fF _
 rw[e,dM];simp;have nz:((p.length:Int) !=0)=true:=by simp;intro h;rw[h]at hi;simp at hi
 have md:(i+1)%p.length<p.length:=Nat.mod_lt _ (by omega);have w:i64.wrap (i+1)=(i+1:Nat):=bB (by omega);have z:((p.length:Int)).toNat=p.length:=by omega
 have rp:List.replicate (p.length-i) (iH.mk 0 0 0 0)=iH.mk 0 0 0 0::List.replicate (p.length-(i+1)) (iH.mk 0 0 0 0):=by rw[show p.length-i=(p.length-(i+1))+1 by omega,List.replicate_succ]
 have la:((List.range i).map (fK p)).length=i:=by simp
 have g:cd ((List.range i).map (fK p)++List.replicate (p.length-i) (iH.mk 0 0 0 0)) ((0:Nat)+(i:Nat))=some (iH.mk 0 0 0 0):=by rw[IW,o7 (by omega),la,rp,Nat.sub_self];rfl
 have z2:(((0:Nat):Int)+(i:Nat)).toNat=i:=by omega
 have st:((List.range i).map (fK p)++List.replicate (p.length-i) (iH.mk 0 0 0 0)).set i (fK p i)=(List.range (i+1)).map (fK p)++List.replicate (p.length-(i+1)) (iH.mk 0 0 0 0):=by rw[rp];have:=akn ((List.range i).map (fK p)) (List.replicate (p.length-(i+1)) (iH.mk 0 0 0 0)) (iH.mk 0 0 0 0) (fK p i);rw[la]at this;rw[this,List.range_succ,map_append,aR];rfl
 simp only[oF,cu hi,aj,bf hi,ai,nz,w,Zf,bf md,z,bE hi,g,z2];rw[<- SB hi,<- SB md];rw[show iH.mk (mz p i).x (mz p i).y (mz p ((i+1)%p.length)).x (mz p ((i+1)%p.length)).y=fK p i from rfl,st];simp[oF];rfl
def Ej(a:bK):Bool:=decide (0<=a.x)&&(decide (a.x<=1048576)&&(decide (0<=a.y)&&decide (a.y<=1048576)))
def rk(s:iH):Bool:=s.j0==s.kA
def Kz(s t:iH):Bool:=decide (max (min s.j0 s.kA) (min t.j0 t.kA)<=min (max s.j0 s.kA) (max t.j0 t.kA))&&decide (max (min s.nb s.rI) (min t.nb t.rI)<=min (max s.nb s.rI) (max t.nb t.rI))
def El(a b:bK):Bool:=decide (a.x<b.x) || (a.x==b.x&&decide (a.y<b.y))
theorem ML(a:bK):sH a=some (Ej a):=by simp[sH,My,Ej]
theorem Cq(s t:iH):lG s t=some (Kz s t):=by simp[lG,My,Kz]
theorem mV(s:iH):gT s=some (rk s):=rfl
theorem Vm(a b:Int)(hn:3<=n):uS n [a,b]=some (if a=0 then b else a):=by
 obtain⟨m,rfl⟩:∃m,n=m+3:=⟨n-3,by omega⟩;have w1:i64.wrap (0+1)=1:=by decide
 have w2:i64.wrap (1+1)=2:=by decide
 by_cases ha:a=0;by_cases hb:b=0;subst ha;subst hb;simp;rfl;have hb':(b !=0)=true:=by simpa using hb
 subst ha;simp only[uS,IX,AL,w1];simp[cd,hb'];have ha':(a !=0)=true:=by simpa using ha
 simp[uS,IX,AL];simp[cd,ha',ha]
theorem KA(a b:bK)(hn:3<=n):∃r,qD n a b=some r/\decide (r>=0)=!El a b:=by
 unfold qD;rw[kG,kG];simp;rw[show ∀u v:Int,sub [u,v] 0 2=[u,v]from λ_ _=>rfl,Vm _ _ hn];refine⟨_,rfl,?_⟩;unfold El;by_cases h1:a.x<b.x;simp[h1];by_cases h2:b.x<a.x;have h3:¬a.x=b.x:=by omega
 simp[h1,h2,h3];have h3:a.x=b.x:=by omega
 by_cases h4:a.y<b.y;simp[h3,h4];by_cases h5:b.y<a.y<;>simp[h3,h4,h5]
def wg(p:List bK)(i:Nat):Bool:=
 (!Ej (mz p i) || ((((fK p i).j0==(fK p i).kA)==((fK p i).nb==(fK p i).rI)) || (rk (fK p i)==rk (fK p ((i+1)%p.length))))) || (decide (0<i)&&!El (mz p 0) (mz p i))
def MN(p:List bK)(i k:Nat):Bool:=decide (i+p.length-k>1)&&Kz (fK p i) (fK p k)
def Em(p:List bK):Bool:=
 decide (4<=p.length)&&(decide (p.length<=60)&&(!((List.range p.length).any (wg p))&&(!((List.range p.length).any λi=>(List.range p.length).any λk=>decide (i+2<=k)&&MN p i k)&&!rk (fK p 0))))
def iP(l:List au)(x y:Int):Bool:=l.any λr=>(decide (r.x0<=x)&&decide (x<r.x1))&&(decide (r.y0<=y)&&decide (y<r.y1))
theorem Qy l (x y:Int):er (fe l x) y=iP l x y:=by
 induction l with
 |nil=>rfl
 |cons r l ih=>
  unfold fe iP at*;rw[List.filter_cons,List.any_cons,<- ih];cases h:(decide (r.x0<=x)&&decide (x<r.x1))with
  |true=>simp;rw[mU]
  |false=>simp
theorem tH{l:List au}(h:∀r∈l,cI r=true) x:Can (bL l x)/\∀y,er (bL l x) y=iP l x y:=by have⟨h1,h2⟩:=OM (Vl h x);exact⟨h1,λy=>by rw[bL,h2,Qy]⟩
def oV:List aY->Prop
 |[]=>True
 |[s]=>s.x0<s.x1
 |s::t::l=>s.x0<s.x1/\s.x1=t.x0/\oV (t::l)
def jD:List aY->Int->List aH
 |[],_=>[]
 |s::l,x=>bif decide (s.x0<=x)&&decide (x<s.x1)then s.column else jD l x
theorem jd(s:aY) l x:jD (s::l) x=bif decide (s.x0<=x)&&decide (x<s.x1)then s.column else jD l x:=rfl
def Runs:List aY->Prop
 |[]=>True
 |[s]=>s.x0<s.x1/\s.column≠[]
 |s::t::l=>(s.x0<s.x1/\s.column≠[])/\s.x1<=t.x0/\(s.x1=t.x0->s.column≠t.column)/\Runs (t::l)
theorem je{s:aY}{l:List aY}(h:Runs (s::l)):Runs l:=by
 cases l with
 |nil=>trivial
 |cons t l=>exact h.2.2.2
theorem j6{s:aY}{l:List aY}(h:Runs (s::l)):s.x0<s.x1/\s.column≠[]:=by
 cases l with
 |nil=>exact h
 |cons t l=>exact h.1
theorem lQ:∀{l:List aY}{b x:Int},Runs l->(∀ s∈l.head?,b<=s.x0)->x<b->jD l x=[]
 |[],_,_,_,_,_=>rfl
 |s::l,b,x,h,hb,hx=>by
  have h0:=hb s rfl;have hs:=j6 h;have c:(decide (s.x0<=x)&&decide (x<s.x1))=false:=by rw[Bool.and_eq_false_iff,dU];left;omega
  rw[jd,c,ax];refine lQ (je h) (b:=s.x1) (λ t ht=>?_) (by omega);cases l with
  |nil=>cases ht
  |cons u l=>
   have:t=u:=(by simpa using ht.symm);subst this;exact h.2.1
theorem tJ{s:aY}{l:List aY}{x:Int}(h1:s.x0<=x)(h2:x<s.x1):jD (s::l) x=s.column:=by rw[jd,show(decide (s.x0<=x)&&decide (x<s.x1))=true by simp[h1,h2]];rfl
theorem wo{s:aY}{l:List aY}{x:Int}(h:s.x1<=x):jD (s::l) x=jD l x:=by rw[jd,show(decide (s.x0<=x)&&decide (x<s.x1))=false by rw[Bool.and_eq_false_iff,dU,dU];right;omega];rfl
theorem ac6{s:aY}{l:List aY}(h:Runs (s::l)):jD l s.x1≠s.column:=by
 have hs:=j6 h;cases l with
 |nil=>exact λe=>hs.2 e.symm
 |cons t l=>
  obtain⟨_,h2,h3,h4⟩:=h;have ht:=j6 h4;by_cases e:s.x1=t.x0;rw[tJ (by omega) (by omega)];exact λe'=>h3 e e'.symm
  rw[lQ h4 (b:=t.x0) (λ u hu=>by have:u=t:=by simpa using hu.symm
                                 subst this;exact Int.le_refl _) (by omega)]
  exact λe'=>hs.2 e'.symm
theorem Qz:∀{l m:List aY},Runs l->Runs m->(∀ x,jD l x=jD m x)->l=m
 |[],[],_,_,_=>rfl
 |[],b::m,_,hm,h=>by have hb:=j6 hm;have:=h b.x0;rw[tJ (Int.le_refl _) hb.1]at this;exact absurd this.symm hb.2
 |a::l,[],hl,_,h=>by have ha:=j6 hl;have:=h a.x0;rw[tJ (Int.le_refl _) ha.1]at this;exact absurd this ha.2
 |a::l,b::m,hl,hm,h=>by
  have ha:=j6 hl;have hb:=j6 hm;have e0:a.x0=b.x0:=by
   rcases Int.lt_trichotomy a.x0 b.x0 with hlt|he|hlt;have:=h a.x0
   rw[tJ (Int.le_refl _) ha.1,lQ hm (b:=b.x0) (λ u hu=>by have:u=b:=by simpa using hu.symm
                                                          subst this;exact Int.le_refl _) hlt]at this
   exact absurd this ha.2;exact he;have:=h b.x0
   rw[tJ (Int.le_refl _) hb.1,lQ hl (b:=a.x0) (λ u hu=>by have:u=a:=by simpa using hu.symm
                                                          subst this;exact Int.le_refl _) hlt]at this
   exact absurd this.symm hb.2
  have ec:a.column=b.column:=by
   have:=h a.x0
   rwa [tJ (Int.le_refl _) ha.1,tJ (by omega) (by omega)]at this
  have e1:a.x1=b.x1:=by rcases Int.lt_trichotomy a.x1 b.x1 with hlt|he|hlt;have:=h a.x1;rw[wo (Int.le_refl _),tJ (by omega) hlt]at this;exact absurd (this.trans ec.symm) (ac6 hl);exact he;have:=h b.x1;rw[wo (s:=b) (Int.le_refl _),tJ (by omega) hlt]at this;exact absurd (this.symm.trans ec) (ac6 hm)
  have e:a=b:=by cases a;cases b;simp at e0 e1 ec;rw[e0,e1,ec]
  subst e;rw[Qz (je hl) (je hm) λx=>?_];by_cases hx:x<a.x1;have bl:=lQ (je hl) (b:=a.x1) (x:=x) (λ t ht=>by
   cases l with
   |nil=>cases ht
   |cons u l=>
    have:t=u:=(by simpa using ht.symm);subst this;exact hl.2.1) hx
  have bm:=lQ (je hm) (b:=a.x1) (x:=x) (λ t ht=>by
   cases m with
   |nil=>cases ht
   |cons u m=>
    have:t=u:=(by simpa using ht.symm);subst this;exact hm.2.1) hx
  rw[bl,bm];have:=h x
  rwa [wo (by omega),wo (by omega)]at this
def Ho(x0 x1:Int)(c:List aH):List aY:=if c=[]then []else [⟨x0,x1,c⟩]
def ER(x0 x1:Int)(c:List aH):List aY->List aY
 |[]=>Ho x0 x1 c
 |s::l=>if s.column=c then ER x0 s.x1 c l else Ho x0 x1 c++ER s.x0 s.x1 s.column l
def J3:List aY->List aY
 |[]=>[]
 |s::l=>ER s.x0 s.x1 s.column l
def lT(l:List aY):List au:=l.flatMap λs=>jZ s.x0 s.x1 s.column
theorem QA(x0 x1:Int) c:lT (Ho x0 x1 c)=jZ x0 x1 c:=by unfold Ho;split;rename_i h;subst h;rfl;simp[lT]
theorem OV:∀l (x0 x1:Int) c,Rc x0 x1 c l=lT (ER x0 x1 c l)
 |[],x0,x1,c=>(QA x0 x1 c).symm
 |s::l,x0,x1,c=>by simp[Rc,ER];split;exact OV l _ _ _;rw[OV l];unfold lT;rw[List.flatMap_append];congr 1;exact(QA x0 x1 c).symm
theorem wu l:gI l=lT (J3 l):=by
 cases l with
 |nil=>rfl
 |cons s l=>exact OV l _ _ _
theorem KC x0:∀l x1 c,x0<x1->(∀ s∈l.head?,x1=s.x0)->oV l->∀t∈(ER x0 x1 c l).head?,x0<=t.x0/\(t.x0=x0->t.column=c)
 |[],x1,c,_,_,_,t,ht=>by
  simp[ER,Ho]at ht;split at ht;cases ht;have:t=⟨x0,x1,c⟩:=by simpa using ht.symm
  subst this;exact⟨Int.le_refl _,λ_=>rfl⟩
 |s::l,x1,c,hx,hc,hS,t,ht=>by
  have e:=hc s rfl;have hs:s.x0<s.x1/\(∀ u∈l.head?,s.x1=u.x0)/\oV l:=by
   cases l with
   |nil=>exact⟨hS,λu hu=>(by cases hu),trivial⟩
   |cons v l=>exact⟨hS.1,λu hu=>by have:u=v:=by simpa using hu.symm
                                   subst this;exact hS.2.1,hS.2.2⟩
  simp[ER]at ht;split at ht;exact KC x0 l s.x1 c (by omega) hs.2.1 hs.2.2 t ht;unfold Ho at ht;split at ht;rw[fM]at ht;have:=KC s.x0 l s.x1 s.column hs.1 hs.2.1 hs.2.2 t ht;exact⟨by omega,λh=>by omega⟩;have:t=⟨x0,x1,c⟩:=by simpa using ht.symm
  subst this;exact⟨Int.le_refl _,λ_=>rfl⟩
theorem ail{s:aY}{l:List aY}(h1:s.x0<s.x1)(h2:s.column≠[])(h3:∀t∈l.head?,s.x1<=t.x0/\(s.x1=t.x0->s.column≠t.column))(h4:Runs l):Runs (s::l):=by
 cases l with
 |nil=>exact⟨h1,h2⟩
 |cons t l=>
  have:=h3 t rfl;exact⟨⟨h1,h2⟩,this.1,this.2,h4⟩
theorem KD:∀l (x0 x1:Int) c,x0<x1->(∀ s∈l.head?,x1=s.x0)->oV l->
 Runs (ER x0 x1 c l)/\∀x,jD (ER x0 x1 c l) x=bif decide (x0<=x)&&decide (x<x1)then c else jD l x
 |[],x0,x1,c,hx,_,_=>by simp[ER,Ho];split;rename_i h;subst h;exact⟨trivial,λx=>by simp[jD]⟩;rename_i h;exact⟨⟨hx,h⟩,λx=>rfl⟩
 |s::l,x0,x1,c,hx,hc,hS=>by
  have e:=hc s rfl;have hs:s.x0<s.x1/\(∀ u∈l.head?,s.x1=u.x0)/\oV l:=by
   cases l with
   |nil=>exact⟨hS,λu hu=>(by cases hu),trivial⟩
   |cons v l=>exact⟨hS.1,λu hu=>by have:u=v:=by simpa using hu.symm
                                   subst this;exact hS.2.1,hS.2.2⟩
  simp[ER];split;rename_i AE;obtain⟨r1,r2⟩:=KD l x0 s.x1 c (by omega) hs.2.1 hs.2.2;refine⟨r1,λx=>?_⟩;rw[r2,jd,AE];by_cases h1:x0<=x<;>by_cases h2:x<x1<;>by_cases h3:s.x0<=x<;>by_cases h4:x<s.x1<;>simp[h1,h2,h3,h4]<;>omega;rename_i AE;have⟨r1,r2⟩:=KD l s.x0 s.x1 s.column hs.1 hs.2.1 hs.2.2;have hd:=KC s.x0 l s.x1 s.column hs.1 hs.2.1 hs.2.2;unfold Ho;split
  ·rename_i hn;subst hn;rw[fM];refine⟨r1,λx=>?_⟩;rw[r2,jd];by_cases h1:x0<=x<;>by_cases h2:x<x1;have h3:¬s.x0<=x:=(by omega);simp[h1,h2];have:=lQ r1 (b:=s.x0) (x:=x) (λ t ht=>(hd t ht).1) (by omega);rw[r2]at this;simpa[h3]using this
   all_goals simp[h1,h2]
  rename_i hn;rw[List.singleton_append];refine⟨ail hx hn (λ t ht=>?_) r1,λx=>?_⟩;have⟨d1,d2⟩:=hd t ht;refine⟨by show x1<=t.x0;omega,λht2 hcc=>?_⟩;have ht2:x1=t.x0:=ht2;rw[d2 (by omega)]at hcc;exact AE hcc.symm;rw[jd,r2,jd]
theorem yK{l:List aY}(h:oV l):Runs (J3 l)/\∀x,jD (J3 l) x=jD l x:=by
 cases l with
 |nil=>exact⟨trivial,λ_=>rfl⟩
 |cons s l=>
  have hs:s.x0<s.x1/\(∀ u∈l.head?,s.x1=u.x0)/\oV l:=by
   cases l with
   |nil=>exact⟨h,λu hu=>(by cases hu),trivial⟩
   |cons v l=>exact⟨h.1,λu hu=>by have:u=v:=by simpa using hu.symm
                                  subst this;exact h.2.1,h.2.2⟩
  have⟨r1,r2⟩:=KD l s.x0 s.x1 s.column hs.1 hs.2.1 hs.2.2;exact⟨r1,λx=>by rw[jd];exact r2 x⟩
theorem XH{l m:List aY}(hl:oV l)(hm:oV m)(h:∀x,jD l x=jD m x):gI l=gI m:=by have⟨l1,l2⟩:=yK hl;have⟨m1,m2⟩:=yK hm;rw[wu,wu,Qz l1 m1 λx=>by rw[l2,m2,h]]
theorem Vn(l m:List au) x:fe (l++m) x=fe l x++fe m x:=by simp[fe]
theorem XI(x0 x1:Int) c x:fe (jZ x0 x1 c) x=bif decide (x0<=x)&&decide (x<x1)then c else []:=by
 unfold fe jZ
 induction c with
 |nil=>simp
 |cons s c ih=>
  rw[bg,List.filter_cons];cases h:(decide (x0<=x)&&decide (x<x1))with
  |true=>rw[h]at ih;simp[ih]
  |false=>rw[h]at ih;simpa using ih
theorem MO:∀{l:List aY},Runs l->∀x,fe (lT l) x=jD l x
 |[],_,x=>rfl
 |s::l,h,x=>by
  have ih:=MO (je h) x;have hs:=j6 h;show fe (jZ s.x0 s.x1 s.column++lT l) x=_;rw[Vn,XI,ih,jd];cases hc:(decide (s.x0<=x)&&decide (x<s.x1))with
  |false=>rfl
  |true=>
   rw[bq,bM,bM]at hc;have:=lQ (je h) (b:=s.x1) (x:=x) (λ t ht=>by
    cases l with
    |nil=>cases ht
    |cons u l=>
     have:t=u:=(by simpa using ht.symm);subst this;exact h.2.1) hc.2
   rw[this];simp
theorem Hq{l:List aY}(h:oV l) x:fe (gI l) x=jD l x:=by have⟨h1,h2⟩:=yK h;rw[wu,MO h1,h2]
theorem aaT{l:List aY}(h:oV l)(x y:Int):iP (gI l) x y=er (jD l x) y:=by rw[<- Qy,Hq h]
theorem lU{α:Type}(f:Int->Int->α)(a b:Int) l:eG f (a::b::l)=f a b::eG f (b::l):=rfl
theorem En(g:Int->List aH):∀es,es.Pairwise (· < ·)->oV (eG (λ a b=>(⟨a,b,g a⟩:aY)) es)
 |[],_|[_],_=>trivial
 |[a,b],h=>by have h1:=(pairwise_cons.1 h).1 b (by simp);exact h1
 |a::b::c::l,h=>by have h1:=(pairwise_cons.1 h).1 b (by simp);exact⟨h1,rfl,En g (b::c::l) (pairwise_cons.1 h).2⟩
theorem Hr(g:Int->List aH) x:∀es,(∀ e∈es,x<e)->jD (eG (λ a b=>(⟨a,b,g a⟩:aY)) es) x=[]
 |[],_|[_],_=>rfl
 |a::b::l,h=>by have ha:=h a (by simp);rw[lU,jd,show(decide (a<=x)&&decide (x<b))=false by rw[Bool.and_eq_false_iff,dU];left;omega,ax];exact Hr g x (b::l) λe he=>h e (cO _ he)
theorem Ht(g:Int->List aH) x:∀l a,(a::l).Pairwise (· < ·)->a<=x->
 (∀ e∈a::l,e<=x->(∀ e'∈a::l,e'<=e\/x<e')->g e=g x)->((∀ e∈a::l,e<=x)->g x=[])->jD (eG (λ a b=>(⟨a,b,g a⟩:aY)) (a::l)) x=g x
 |[],a,_,hx,_,h2=>(h2 (λ e he=>by have:e=a:=by simpa using he
                                  subst this;exact hx)).symm
 |b::l,a,hp,hx,h1,h2=>by have hab:=(pairwise_cons.1 hp).1 b (by simp);rw[lU,jd];by_cases hb:x<b;rw[show (decide (a<=x)&&decide (x<b))=true by simp[hx,hb],aj];refine h1 a (by simp) hx λe he=>?_;rcases aP.1 he with rfl|he;exact .inl (Int.le_refl _);right;rcases aP.1 he with rfl|he;exact hb;have:=(pairwise_cons.1 (pairwise_cons.1 hp).2).1 e he;omega;rw[show (decide (a<=x)&&decide (x<b))=false by simp[hb],ax];refine Ht g x l b (pairwise_cons.1 hp).2 (by omega) (λ e he hex hc=>h1 e (cO _ he) hex λe' he'=>?_) λhall=>h2 λe he=>?_;rcases aP.1 he' with rfl|he';left;have:=(pairwise_cons.1 hp).1 e he;omega;exact hc e' he';rcases aP.1 he with rfl|he;exact hx;exact hall e he
theorem QB(g:Int->List aH) es (hp:es.Pairwise (· < ·)) x
 (h1:∀e∈es,e<=x->(∀ e'∈es,e'<=e\/x<e')->g e=g x) (h2:(∀ e∈es,e<=x)->g x=[]) (h3:(∀ e∈es,x<e)->g x=[]):jD (eG (λ a b=>(⟨a,b,g a⟩:aY)) es) x=g x:=by
 cases es with
 |nil=>exact(h3 (by simp)).symm
 |cons a l=>
  by_cases hx:a<=x;exact Ht g x l a hp hx h1 h2;have hall:∀e∈a::l,x<e:=by intro e he;rcases aP.1 he with rfl|he;omega;have:=(pairwise_cons.1 hp).1 e he;omega
  rw[Hr g x _ hall,h3 hall]
theorem Eo{l:List au}{z:Int}:z∈eF l↔∃r∈l,z=r.x0\/z=r.x1:=by rw[eF,GJ,List.mem_flatMap];simp
theorem vB l:(eF l).Pairwise (· < ·):=zL _
theorem AP{l:List au}{es:List Int}(hes:∀r∈l,r.x0∈es/\r.x1∈es){e x:Int}(hex:e<=x)(hc:∀e'∈es,e'<=e\/x<e'):fe l e=fe l x:=by unfold fe;congr 1;refine List.filter_congr λr hr=>?_;have⟨h0,h1⟩:=hes r hr;have:=hc _ h0;have:=hc _ h1;rw[dw,bq,bq,bM,bM,bM,bM];omega
theorem pQ{l:List au}{x:Int}(h:∀r∈l,x<r.x0\/r.x1<=x):fe l x=[]:=by unfold fe;rw[List.map_eq_nil_iff,List.filter_eq_nil_iff];intro r hr;have:=h r hr;rw[bq,bM,bM];omega
theorem tK l:oV (aV l):=En _ _ (vB l)
theorem vC l x:jD (aV l) x=bL l x:=by have hes:∀r∈l,r.x0∈eF l/\r.x1∈eF l:=λr hr=>⟨Eo.2 ⟨r,hr,.inl rfl⟩,Eo.2 ⟨r,hr,.inr rfl⟩⟩;refine QB (bL l) (eF l) (vB l) x (λ e _ hex hc=>?_) (λ hall=>?_) (λ hall=>?_);unfold bL;rw[AP hes hex hc];unfold bL;rw[pQ λr hr=>.inr (hall _ (hes r hr).2)];rfl;unfold bL;rw[pQ λr hr=>.inl (hall _ (hes r hr).1)];rfl
theorem ako{c:List aH}(h:Can c):Rb c=c:=by have⟨h1,h2⟩:=OM h.2;exact Ky h1 h h2
theorem QC{l:List aY}{r:au}:r∈lT l↔∃s∈l,∃q∈s.column,r=⟨s.x0,q.from_,s.x1,q.to⟩:=by simp[lT,jZ];constructor;rintro⟨s,hs,q,hq,rfl⟩;exact⟨s,hs,q,hq,rfl⟩;rintro⟨s,hs,q,hq,rfl⟩;exact⟨s,hs,q,hq,rfl⟩
theorem Ac:∀{l:List aY},Runs l->∀s∈l,s.x0<s.x1/\∀x,s.x0<=x->x<s.x1->jD l x=s.column
 |[],_,s,hs=>by simp at hs
 |t::l,h,s,hs=>by
  rcases aP.1 hs with rfl|hs;exact⟨(j6 h).1,λx h1 h2=>tJ h1 h2⟩;have⟨g1,g2⟩:=Ac (je h) s hs;refine⟨g1,λx h1 h2=>?_⟩;have:t.x1<=x:=by
   by_cases hlt:x<t.x1;have hb:=lQ (je h) (b:=t.x1) (x:=x) (λ u hu=>by
    cases l with
    |nil=>cases hu
    |cons v l=>
     have:u=v:=(by simpa using hu.symm);subst this;exact h.2.1) hlt
   rw[g2 x h1 h2]at hb;have hne:s.column≠[]:=by
    have:∀{l:List aY},Runs l->∀s∈l,s.column≠[]:=by
     intro l
     induction l with
     |nil=>intro _ s hs;simp at hs
     |cons a l ih=>
      intro h s hs;rcases aP.1 hs with rfl|hs;exact(j6 h).2;exact ih (je h) s hs
    exact this (je h) s hs
   exact absurd hb hne;omega
  rw[wo this,g2 x h1 h2]
theorem aaU{S:List aY}(hS:oV S)(hc:∀x,Can (jD S x))(hb:∀x y,er (jD S x) y=true->(0<=x/\x<1048576)/\(0<=y/\y<1048576))(hl:(gI S).length<=200):cm (gI S)=true:=by
 have hok:∀r∈gI S,cI r=true:=by intro r hr;have⟨r1,r2⟩:=yK hS;rw[wu,QC]at hr;obtain⟨s,hs,q,hq,rfl⟩:=hr;have⟨g1,g2⟩:=Ac r1 s hs;have c0:=g2 s.x0 (Int.le_refl _) g1;have c1:=g2 (s.x1-1) (by omega) (by omega);rw[r2]at c0 c1;have hcan:=hc s.x0;rw[c0]at hcan;have hq1:q.from_<q.to:=hcan.2 q hq;have b0:=hb s.x0 q.from_ (by rw[c0,tC];exact⟨q,hq,Int.le_refl _,hq1⟩);have b1:=hb (s.x1-1) (q.to-1) (by rw[c1,tC];exact⟨q,hq,by omega,by omega⟩);simp;omega
 have he:gI (aV (gI S))=gI S:=by refine XH (tK _) hS λx=>?_;rw[vC,bL,Hq hS,ako (hc x)]
 unfold cm pc;rw[bA (all_eq_true.2 hok),bn (by omega),he,bn (by omega)];simp
theorem aim{a:List au}(h:cm a=true):pc a=(a,0):=by unfold cm at h;rw[bq,bM,bM]at h;obtain⟨h1,h2⟩:=h;exact Prod.ext h2 h1
theorem ji{a:List au}(h:cm a=true):(∀ r∈a,cI r=true)/\a.length<=200/\gI (aV a)=a:=by have h:=aim h;unfold pc at h;split at h;rename_i hall;split at h;simp at h;split at h;simp at h;rename_i pj;injection h with h _;refine⟨all_eq_true.1 hall,?_,h⟩;rw[<- h];omega;simp at h
theorem xD{a:List au}(h:∀r∈a,cI r=true){x y:Int}(hc:iP a x y=true):(0<=x/\x<1048576)/\(0<=y/\y<1048576):=by simp[iP]at hc;obtain⟨q,hq,h1,h2⟩:=hc;have:=h q hq;simp at this;omega
def ext(ab:List aH)(p:aH):List aH:=
 match ab.getLast? with
 |some q=>bif q.to==p.from_ then ab.dropLast++[⟨q.from_,p.to⟩]else ab++[p]
 |none=>[p]
def gp(a b:List aH):List Int:=wa ((a++b).flatMap λs=>[s.from_,s.to])
def kH(keep:Bool->Bool->Bool)(a b:List aH):List aH:=
 ((eG aH.mk (gp a b)).filter λp=>keep (er a p.from_) (er b p.from_)).foldl ext []
theorem Vo o (q p:aH):ext (o++[q]) p=bif q.to==p.from_ then o++[⟨q.from_,p.to⟩]else o++[q]++[p]:=by simp[ext]
theorem akp{ab:List aH}{p:aH}(hc:Can ab)(hp:uv p)(hb:∀o∈ab,o.to<=p.from_):
 Can (ext ab p)/\(∀ o∈ext ab p,o.to<=p.to)/\∀y,er (ext ab p) y=(er ab y || er [p] y):=by
 have hp':p.from_<p.to:=hp;rcases List.eq_nil_or_concat ab with rfl|⟨o,q,rfl⟩;refine⟨⟨by simp[ext],by simp[ext];exact hp⟩,by simp[ext],λy=>by simp[ext,er]⟩;rw[List.concat_eq_append]at*;obtain⟨h1,h2⟩:=hc;rw[pairwise_append]at h1;obtain⟨p1,_,p3⟩:=h1;have hq:q.from_<q.to:=h2 q (by simp);have hqp:q.to<=p.from_:=hb q (by simp);rw[Vo];cases hj:q.to==p.from_ with
 |true=>
  have hj:=eq_of_beq hj;simp only[aj];refine⟨⟨?_,?_⟩,?_,?_⟩;rw[pairwise_append];refine⟨p1,by simp,λa ha b hb'=>?_⟩;rw[aZ]at hb';subst hb';exact p3 a ha q (by simp);intro a ha;rcases bO.1 ha with ha|ha;exact h2 a (by simp[ha]);rw[aZ]at ha;subst ha;show q.from_<p.to;omega;intro a ha;rcases bO.1 ha with ha|ha;have:=hb a (by simp[ha]);omega;rw[aZ]at ha;subst ha;exact Int.le_refl _;intro y;rw[oU,oU,Bool.or_assoc];congr 1;simp[mU,xB];rw[dw];simp;omega
 |false=>
  rw[beq_eq_false_iff_ne]at hj;simp only[ax];refine⟨⟨?_,?_⟩,?_,?_⟩;rw[pairwise_append];refine⟨?_,by simp,λa ha b hb'=>?_⟩;rw[pairwise_append];exact⟨p1,by simp,p3⟩;rw[aZ]at hb';subst hb';rcases bO.1 ha with ha|ha;have:=p3 a ha q (by simp);omega;rw[aZ]at ha;subst ha;omega;intro a ha;rcases bO.1 ha with ha|ha;exact h2 a ha;rw[aZ]at ha;subst ha;exact hp;intro a ha;rcases bO.1 ha with ha|ha;have:=hb a ha;omega;rw[aZ]at ha;subst ha;exact Int.le_refl _;intro y;rw[oU]
theorem Zg:∀(l ab:List aH),Can ab->(∀ s∈l,uv s)->l.Pairwise (λ x y=>x.to<=y.from_)->(∀ o∈ab,∀s∈l,o.to<=s.from_)->Can (l.foldl ext ab)/\∀y,er (l.foldl ext ab) y=(er ab y || er l y)
 |[],ab,hc,_,_,_=>⟨hc,λy=>by simp[xB]⟩
 |s::l,ab,hc,hv,hp,hb=>by rw[pairwise_cons]at hp;obtain⟨m1,m2,m3⟩:=akp hc (hv s (by simp)) (λ o ho=>hb o ho s (by simp));obtain⟨f1,f2⟩:=Zg l (ext ab s) m1 (λ t ht=>hv t (by simp[ht])) hp.2 (λ o ho t ht=>Int.le_trans (m2 o ho) (hp.1 t ht));refine⟨f1,λy=>?_⟩;rw[foldl_cons,f2,m3,Bool.or_assoc,<- oU];rfl
theorem ac7:∀es,es.Pairwise (· < ·)->(∀ p∈eG aH.mk es,uv p/\p.from_∈es/\p.to∈es/\∀e∈es,e<=p.from_\/p.to<=e)/\(eG aH.mk es).Pairwise λx y=>x.to<=y.from_
 |[],_|[_],_=>⟨by simp[eG],by simp[eG]⟩
 |a::b::l,h=>by obtain⟨h1,h2⟩:=pairwise_cons.1 h;have⟨i1,i2⟩:=ac7 (b::l) h2;have hab:=h1 b (by simp);rw[lU];refine⟨λ p hp=>?_,?_⟩;rcases aP.1 hp with rfl|hp;refine⟨hab,by simp,by simp,λe he=>?_⟩;rcases aP.1 he with rfl|he;exact .inl (Int.le_refl _);right;rcases aP.1 he with rfl|he;exact Int.le_refl _;have:=(pairwise_cons.1 h2).1 e he;show b<=e;omega;have⟨g1,g2,g3,g4⟩:=i1 p hp;refine⟨g1,cO _ g2,cO _ g3,λe he=>?_⟩;rcases aP.1 he with rfl|he;left;have:=h1 _ g2;omega;exact g4 e he;rw[pairwise_cons];refine⟨λ p hp=>?_,i2⟩;have⟨_,g2,_,_⟩:=i1 p hp;show b<=p.from_;rcases aP.1 g2 with e|g2;omega;have:=(pairwise_cons.1 h2).1 _ g2;omega
theorem QD:∀es y,(∃ e∈es,e<=y)->(∃ e∈es,y<e)->es.Pairwise (· < ·)->∃p∈eG aH.mk es,p.from_<=y/\y<p.to
 |[],y,⟨e,he,_⟩,_,_=>by simp at he
 |[a],y,⟨e,he,h1⟩,⟨e',he',h2⟩,_=>by
  have:e=a:=by simpa using he
  have:e'=a:=by simpa using he'
  omega
 |a::b::l,y,h1,h2,hp=>by obtain⟨g1,g2⟩:=pairwise_cons.1 hp;rw[lU];by_cases hb:y<b;refine⟨⟨a,b⟩,by simp,?_,hb⟩;obtain⟨e,he,hey⟩:=h1;show a<=y;rcases aP.1 he with rfl|he;exact hey;have:=g1 e he;omega;obtain⟨e',he',h2'⟩:=h2;obtain⟨p,hp,q⟩:=QD (b::l) y ⟨b,by simp,by omega⟩ ⟨e',(by rcases aP.1 he' with rfl|he';have:=g1 b (by simp);omega;exact he'),h2'⟩ g2;exact⟨p,cO _ hp,q⟩
theorem Zh{c:List aH}{es:List Int}(hes:∀s∈c,s.from_∈es/\s.to∈es){e y:Int}(hey:e<=y)(hc:∀e'∈es,e'<=e\/y<e'):er c e=er c y:=by rw[dw,tC,tC];constructor;rintro⟨s,hs,h1,h2⟩;have:=hc _ (hes s hs).1;have:=hc _ (hes s hs).2;exact⟨s,hs,by omega,by omega⟩;rintro⟨s,hs,h1,h2⟩;have:=hc _ (hes s hs).1;have:=hc _ (hes s hs).2;exact⟨s,hs,by omega,by omega⟩
theorem QE{keep:Bool->Bool->Bool}(hk:keep false false=false)(a b:List aH):Can (kH keep a b)/\∀y,er (kH keep a b) y=keep (er a y) (er b y):=by
 have hstr:(gp a b).Pairwise (· < ·):=zL _;have hmem:∀z,z∈gp a b↔∃s,(s∈a\/s∈b)/\(z=s.from_\/z=s.to):=by intro z;rw[gp,GJ,List.mem_flatMap];simp
 have ha:∀s∈a,s.from_∈gp a b/\s.to∈gp a b:=λs hs=>⟨(hmem _).2 ⟨s,.inl hs,.inl rfl⟩,(hmem _).2 ⟨s,.inl hs,.inr rfl⟩⟩;have hb:∀s∈b,s.from_∈gp a b/\s.to∈gp a b:=λs hs=>⟨(hmem _).2 ⟨s,.inr hs,.inl rfl⟩,(hmem _).2 ⟨s,.inr hs,.inr rfl⟩⟩;have⟨p1,p2⟩:=ac7 (gp a b) hstr;obtain⟨f1,f2⟩:=Zg ((eG aH.mk (gp a b)).filter λp=>keep (er a p.from_) (er b p.from_)) [] W5 (λ s hs=>(p1 s (mem_filter.1 hs).1).1) (p2.filter _) (by simp);refine⟨f1,λy=>?_⟩;rw[kH,f2,xB,Bool.false_or];by_cases hin:(∃ e∈gp a b,e<=y)/\(∃ e∈gp a b,y<e);obtain⟨p,hp,h1,h2⟩:=QD _ y hin.1 hin.2 hstr;have⟨_,_,_,q4⟩:=p1 p hp;have hc:∀e'∈gp a b,e'<=p.from_\/y<e':=λe' he'=>by rcases q4 e' he' with h|h<;>omega
 rw[<- Zh ha h1 hc,<- Zh hb h1 hc,dw,tC];constructor;rintro⟨s,hs,g1,g2⟩;rw[mem_filter]at hs;have⟨_,r2,r3,r4⟩:=p1 s hs.1;have:s.from_=p.from_:=by have e1:=q4 _ r2;have e2:=r4 _ (p1 p hp).2.1;omega
 rw[<- this];exact hs.2;intro hkk;exact⟨p,mem_filter.2 ⟨hp,hkk⟩,h1,h2⟩;have ab:∀c:List aH,(∀ s∈c,s.from_∈gp a b/\s.to∈gp a b)->er c y=false:=by
  intro c hc;cases hy:er c y with
  |false=>rfl
  |true=>
   obtain⟨s,hs,g1,g2⟩:=(tC _ _).1 hy;exact absurd ⟨⟨_,(hc s hs).1,g1⟩,_,(hc s hs).2,g2⟩ hin
 rw[ab a ha,ab b hb,hk];refine ab _ λs hs=>?_;obtain⟨_,r2,r3,_⟩:=p1 s (mem_filter.1 hs).1;exact⟨r2,r3⟩
def mW(keep:Bool->Bool->Bool)(a b:List au):List aY:=
 eG (λ x x'=>(⟨x,x',kH keep (bL a x) (bL b x)⟩:aY)) (eF (a++b))
def gJ(keep:Bool->Bool->Bool)(a b:List au):List au×Int:=
 if cm a&&cm b then(if (gI (mW keep a b)).length>200 then([],6)else(gI (mW keep a b),0))else([],1)
theorem Zi{keep:Bool->Bool->Bool}(hk:keep false false=false)(a b:List au) x:jD (mW keep a b) x=kH keep (bL a x) (bL b x):=by have hes:∀r∈a++b,r.x0∈eF (a++b)/\r.x1∈eF (a++b):=λr hr=>⟨Eo.2 ⟨r,hr,.inl rfl⟩,Eo.2 ⟨r,hr,.inr rfl⟩⟩;have ha:∀r∈a,r.x0∈eF (a++b)/\r.x1∈eF (a++b):=λr hr=>hes r (List.mem_append_left _ hr);have hb:∀r∈b,r.x0∈eF (a++b)/\r.x1∈eF (a++b):=λr hr=>hes r (List.mem_append_right _ hr);have hnil:kH keep [] []=[]:=rfl;have e0:Rb []=[]:=rfl;refine QB (λ x=>kH keep (bL a x) (bL b x)) (eF (a++b)) (vB _) x (λ e _ hex hc=>?_) (λ hall=>?_) (λ hall=>?_);unfold bL;rw[AP ha hex hc,AP hb hex hc];unfold bL;rw[pQ λr hr=>.inr (hall _ (ha r hr).2),pQ λr hr=>.inr (hall _ (hb r hr).2),e0,hnil];unfold bL;rw[pQ λr hr=>.inl (hall _ (ha r hr).1),pQ λr hr=>.inl (hall _ (hb r hr).1),e0,hnil]
theorem J4{keep:Bool->Bool->Bool}(hk:keep false false=false){a b r:List au}(h:gJ keep a b=(r,0)):cm a=true/\cm b=true/\cm r=true/\∀x y,iP r x y=keep (iP a x y) (iP b x y):=by
 unfold gJ at h;split at h;rename_i hab;rw[bq]at hab;split at h;simp at h;rename_i pj;injection h with h _;subst h;have⟨a1,_,_⟩:=ji hab.1;have⟨b1,_,_⟩:=ji hab.2;have hS:oV (mW keep a b):=En _ _ (vB _);have hcell:∀x y,er (jD (mW keep a b) x) y=keep (iP a x y) (iP b x y):=by intro x y;rw[Zi hk,(QE hk _ _).2,(tH a1 x).2,(tH b1 x).2]
 refine⟨hab.1,hab.2,aaU hS (λ x=>by rw[Zi hk];exact(QE hk _ _).1) (λ x y hy=>?_) (by omega),λx y=>by rw[aaT hS,hcell]⟩;rw[hcell]at hy;cases ca:iP a x y with
 |true=>exact xD a1 ca
 |false=>
  cases cb:iP b x y with
  |true=>exact xD b1 cb
  |false=>rw[ca,cb,hk]at hy;cases hy
 simp at h
def Vp{α:Type}(a0:List α)(a1:Int)(a2:(α×Int×Unit)->Option Int):(Int×Int)->Option ((Int×Int)⊕Int)
 |(v1,v2)=>(bif (decide (v1<v2))then(ck (decide (0<=1)&&decide (1<=IntKind.u64.bits)) ((cd a0 (i64.wrap ((IntKind.u64.wrap (i64.wrap (v1+v2)))/2 ^ (1:Int).toNat))).bind λx1=>(a2 (x1,a1,())).bind λr1=>(bif (decide (r1<0))then some (.inl ((i64.wrap ((i64.wrap ((IntKind.u64.wrap (i64.wrap (v1+v2)))/2 ^ (1:Int).toNat))+1)),v2))else some (.inl (v1,(i64.wrap ((IntKind.u64.wrap (i64.wrap (v1+v2)))/2 ^ (1:Int).toNat)))))))else some (.inr v1))
theorem ac8{α:Type}{l:List α}{key:Int}{φ:(α×Int×Unit)->Option Int}(p:α->Bool)(f:α->Int)(hφ:∀x,φ (x,key,())=some (f x))(hf:∀x,decide (f x<0)=p x)
 (hm:∀i j (hj:j<l.length) (hij:i<j),p l[j]=true->p (l[i]'(by omega))=true) (hl:l.length<1099511627776):
 ∀(m i j n:Nat),j-i<=m->i<=j->j<=l.length->(∀ k (hk:k<i) (hkl:k<l.length),p l[k]=true)->(∀ k (hk:j<=k) (hkl:k<l.length),p l[k]=false)->m<n->
 ∃w:Nat,w<=l.length/\iter (Vp l key φ) n (i,j)=some (w:Int)/\(∀ k (hk:k<w) (hkl:k<l.length),p l[k]=true)/\∀k (hk:w<=k) (hkl:k<l.length),p l[k]=false:=by
 intro m
 induction m with
 |zero=>
  intro i j n hm0 hij hjl h1 h2 hn;obtain⟨n,rfl⟩:∃q,n=q+1:=⟨n-1,by omega⟩;have:i=j:=by omega
  subst this;exact⟨i,hjl,jl (by simp[Vp]),h1,h2⟩
 |succ m ih=>
  intro i j n hm0 hij hjl h1 h2 hn;obtain⟨n,rfl⟩:∃q,n=q+1:=⟨n-1,by omega⟩;by_cases hlt:i<j;have c:decide ((i:Int)<(j:Nat))=true:=by simpa using hlt
  have c1:(decide (0<=1)&&decide (1<=IntKind.u64.bits))=true:=rfl;have e:i64.wrap ((IntKind.u64.wrap (i64.wrap ((i:Nat)+(j:Nat))))/2 ^ (1:Int).toNat)=((i+j)/2:Nat):=by
   rw[aoa (by omega),ah8 (by omega),show((((i+j:Nat):Int))/2 ^ (1:Int).toNat)=((i+j)/2:Nat)by
    rw[show (1:Int).toNat=1 from rfl,Int.pow_one];omega,U1 (by omega)]
  have hh:(i+j)/2<l.length:=by omega
  cases hp:p l[(i+j)/2]with
  |true=>
   have s:Vp l key φ (i,j)=some (.inl (((i+j)/2+1:Nat),j)):=(by simp only[Vp,c,aj,c1,e,bf hh,ai,hφ,hf,hp];rw[bB (by omega)]);rw[mO s];refine ih _ _ n (by omega) (by omega) hjl (λ k hk hkl=>?_) h2 (by omega);by_cases hk2:k<(i+j)/2;exact hm k _ hh hk2 hp;have:k=(i+j)/2:=(by omega);subst this;exact hp
  |false=>
   have s:Vp l key φ (i,j)=some (.inl (i,((i+j)/2:Nat))):=(by simp only[Vp,c,aj,c1,e,bf hh,ai,hφ,hf,hp,ax]);rw[mO s];refine ih _ _ n (by omega) (by omega) (by omega) h1 (λ k hk hkl=>?_) (by omega);by_cases hk2:(i+j)/2<k;cases hpk:p l[k]with
   |false=>rfl
   |true=>have:=hm _ k hkl hk2 hpk;rw[hp]at this;cases this
   have:k=(i+j)/2:=(by omega);subst this;exact hp
  have:i=j:=by omega
  subst this;exact⟨i,hjl,jl (by simp[Vp]),h1,h2⟩
theorem akq l key (φ:(aY×Int×Unit)->Option Int):lD l key φ=Vp l key φ:=by funext ⟨a,b⟩;rfl
theorem alU l key (φ:(aH×Int×Unit)->Option Int):mE l key φ=Vp l key φ:=by funext ⟨a,b⟩;rfl
theorem Vq:∀{l:List aY},oV l->l.Pairwise (λ s t=>s.x1<=t.x0)/\∀s∈l,s.x0<s.x1
 |[],_=>⟨List.Pairwise.nil,by simp⟩
 |[s],h=>⟨by simp,λt ht=>by have:t=s:=by simpa using ht
                            subst this;exact h⟩
 |s::t::l,h=>by obtain⟨h1,h2,h3⟩:=h;have⟨p1,p2⟩:=Vq h3;refine⟨?_,?_⟩;rw[pairwise_cons];refine⟨λ u hu=>?_,p1⟩;rcases aP.1 hu with rfl|hu;omega;have:=(pairwise_cons.1 p1).1 u hu;have:=p2 t (by simp);omega;intro u hu;rcases aP.1 hu with rfl|hu;exact h1;exact p2 u hu
theorem KE{x:Int}:∀{l:List aY},(∀ s∈l,¬(s.x0<=x/\x<s.x1))->jD l x=[]
 |[],_=>rfl
 |s::l,h=>by have:=h s (by simp);rw[jd,show(decide (s.x0<=x)&&decide (x<s.x1))=false by rw[Bool.and_eq_false_iff,dU,dU];omega,ax];exact KE λt ht=>h t (by simp[ht])
theorem Zj{x:Int}:∀{l:List aY}{w:Nat}(hw:w<l.length),(∀ k (hk:k<w),¬((l[k]'(by omega)).x0<=x/\x<(l[k]'(by omega)).x1))->l[w].x0<=x->x<l[w].x1->jD l x=l[w].column
 |[],w,hw,_,_,_=>by simp at hw
 |s::l,0,hw,_,h0,h1=>tJ h0 h1
 |s::l,w+1,hw,hk,h0,h1=>by have hs:=hk 0 (by omega);simp at hs;rw[jd,show(decide (s.x0<=x)&&decide (x<s.x1))=false by rw[Bool.and_eq_false_iff,dU,dU];omega,ax];exact Zj (by simpa using hw) (λ k hk'=>by have:=hk (k+1) (by omega);simpa using this) h0 h1
theorem ac9{l:List aY}{x:Int}(h:oV l)(hl:l.length<1099511627776)(hn:l.length<n):Vj n l x=some (jD l x):=by
 have⟨a1,a2⟩:=Vq h;rw[List.pairwise_iff_getElem]at a1
 have run:=ac8 (l:=l) (key:=x) (φ:=λ(y1:aY×Int×Unit)=>vU y1.1 y1.2.1) (λ s=>decide (s.x1<=x)) (λ s=>if s.x1<=x then -1 else 1)
  (λ s=>by show vU s x=_;unfold vU;by_cases c:s.x1<=x<;>simp[c]) (λ s=>by by_cases c:s.x1<=x<;>simp[c])
  (λ i j hj hij hp=>by rw[bM]at hp ⊢;have:=a1 i j (by omega) hj hij;have:=a2 l[j] (getElem_mem _);omega) hl l.length 0 l.length n (by omega) (by omega) (aB _) (λ k hk=>by omega) (λ k hk hkl=>by omega) hn
 obtain⟨w,hw,e,h1,h2⟩:=run;unfold Vj jm;rw[akq];have e':iter (Vp l x λ(y1:aY×Int×Unit)=>vU y1.1 y1.2.1) n (0,(l.length:Nat))=some (w:Int):=e;rw[e'];simp only[ai];have aq:∀b:Int,∃bb,((bif (decide (w<(l.length:Int)))then(cd l w).bind λx2=>(vU x2 x).bind λr2=>some (w,(r2==b))else some (w,false)):Option (Int×Bool))=some ((w:Int),bb):=by
  intro b;by_cases c:w<l.length;have d:decide ((w:Int)<l.length)=true:=by simpa using c
  rw[d];simp only[aj];rw[bf c,ai];unfold vU;cases decide (l[w].x1<=x)<;>exact⟨_,rfl⟩;have d:decide ((w:Int)<l.length)=false:=by simp;omega
  rw[d];exact⟨_,rfl⟩
 have⟨bb,hbb⟩:=aq 0;rw[hbb,ai];simp only[];by_cases c:w<l.length;have d:decide ((w:Int)<l.length)=true:=by simpa using c
 simp only[d,aj,bf c,ai];have hx1:=h2 w (aB _) c;rw[dU]at hx1;by_cases c2:l[w].x0<=x;simp[c2];rw[Zj c (λ k hk hh=>?_) c2 (by omega)];have:=h1 k hk (by omega);rw[bM]at this;omega;simp[c2];rw[KE λs hs hh=>?_];obtain⟨k,hk,rfl⟩:=mem_iff_getElem.1 hs;rcases Nat.lt_trichotomy k w with z7|rfl|z7;have:=h1 k z7 hk;rw[bM]at this;omega;omega;have:=a1 w k c hk z7;have:=a2 l[w] (getElem_mem _);omega;have d:decide ((w:Int)<l.length)=false:=by simp;omega
 simp only[d,ax,ai];rw[KE λs hs hh=>?_];obtain⟨k,hk,rfl⟩:=mem_iff_getElem.1 hs;have:=h1 k (by omega) hk;rw[bM]at this;omega
theorem MP{l:List aH}{y:Int}(h:Can l)(hl:l.length<1099511627776)(hn:l.length<n):Cj n l y=some (er l y):=by
 obtain⟨a1,a2⟩:=h;rw[List.pairwise_iff_getElem]at a1
 have run:=ac8 (l:=l) (key:=y) (φ:=λ(y1:aH×Int×Unit)=>lF y1.1 y1.2.1) (λ s=>decide (s.to<=y)) (λ s=>if s.to<=y then -1 else 1)
  (λ s=>by show lF s y=_;unfold lF;by_cases c:s.to<=y<;>simp[c]) (λ s=>by by_cases c:s.to<=y<;>simp[c])
  (λ i j hj hij hp=>by rw[bM]at hp ⊢;have:=a1 i j (by omega) hj hij;have:l[j].from_<l[j].to:=a2 l[j] (getElem_mem _);omega) hl l.length 0 l.length n (by omega) (by omega) (aB _) (λ k hk=>by omega) (λ k hk hkl=>by omega) hn
 obtain⟨w,hw,e,h1,h2⟩:=run;unfold Cj jF;rw[alU];have e':iter (Vp l y λ(y1:aH×Int×Unit)=>lF y1.1 y1.2.1) n (0,(l.length:Nat))=some (w:Int):=e;rw[e'];simp only[ai];have aq:∀b:Int,∃bb,((bif (decide (w<(l.length:Int)))then(cd l w).bind λx2=>(lF x2 y).bind λr2=>some (w,(r2==b))else some (w,false)):Option (Int×Bool))=some ((w:Int),bb):=by
  intro b;by_cases c:w<l.length;have d:decide ((w:Int)<l.length)=true:=by simpa using c
  rw[d];simp only[aj];rw[bf c,ai];unfold lF;cases decide (l[w].to<=y)<;>exact⟨_,rfl⟩;have d:decide ((w:Int)<l.length)=false:=by simp;omega
  rw[d];exact⟨_,rfl⟩
 have⟨bb,hbb⟩:=aq 0;rw[hbb,ai];simp only[];by_cases c:w<l.length;have d:decide ((w:Int)<l.length)=true:=by simpa using c
 simp only[d,aj,bf c,ai];have hx1:=h2 w (aB _) c;rw[dU]at hx1;congr 1;rw[dw,bM,tC];constructor;exact λhf=>⟨l[w],getElem_mem _,hf,by omega⟩;rintro⟨s,hs,g1,g2⟩;obtain⟨k,hk,rfl⟩:=mem_iff_getElem.1 hs;rcases Nat.lt_trichotomy k w with z7|rfl|z7;have:=h1 k z7 hk;rw[bM]at this;omega;exact g1;have:=a1 w k c hk z7;omega;have d:decide ((w:Int)<l.length)=false:=by simp;omega
 simp only[d,ax];congr 1;symm;cases hh:er l y with
 |false=>rfl
 |true=>
  obtain⟨s,hs,g1,g2⟩:=(tC _ _).1 hh;obtain⟨k,hk,rfl⟩:=mem_iff_getElem.1 hs;have:=h1 k (by omega) hk;rw[bM]at this;omega
theorem MQ{l:List (List aH)}(hf:l.flatten.length<1099511627776)(hl:l.length<1099511627776)(hn:l.length<n):yF n l=some l.flatten:=L6 (aH.mk 0 0) (b:=16) hf (by omega) hl hn
theorem MR(l:List aH):(l.flatMap λr=>[r.from_,r.to]).length=2*l.length:=by
 induction l with
 |nil=>rfl
 |cons x l ih=>simp[ih];omega
theorem Rh{l:List aH}(hl:l.length<10995116277)(hn:l.length<n):iter (vV l) n (0,[])=some (l.flatMap λr=>[r.from_,r.to]):=by
 have:=gm (l:=l) (step:=vV l) (λ i s=>(i,s)) (λ r s=>s++[r.from_,r.to]) (λ s=>s) (λ i s=>s.length<=2*i)
  (λ i hi s hs=>?_) (λ s hs=>by simp[vV]) n hn [] (aB _)
 rw[k8]at this;rw[this];have gen:∀(ys:List aH) s,ys.foldl (λ s r=>s++[r.from_,r.to]) s=s++ys.flatMap λr=>[r.from_,r.to]:=by
  intro ys
  induction ys with
  |nil=>intro s;simp
  |cons y ys ih=>intro s;simp[ih]
 congr 1;simpa using gen l [];have hi':decide ((i:Int)<(l.length:Nat))=true:=by simpa using hi
 have ap:bQ s.length s.length (sub ([l[i].from_,l[i].to]:List Int) 0 2).length 2 8=true:=dP (n:=2) (by omega) (by simp[maxLen];omega);simp only[vV,hi',aj,bE hi,bJ hi,ai,ap,eu,aI];refine⟨?_,by simp;omega⟩;rw[bB (by omega)];rfl
theorem Vr{α β:Type}(p:α->Bool)(f:β->α->β):∀(l:List α)(s:β),(l.filter p).foldl f s=l.foldl (λ s x=>bif p x then f s x else s) s
 |[],s=>rfl
 |x::l,s=>by
  rw[List.filter_cons,foldl_cons];cases h:p x with
  |true|false=>simp;exact Vr p f l _
theorem Vs ab (p:aH):(ext ab p).length<=ab.length+1:=by
 unfold ext;cases ab.getLast? with
 |none=>simp
 |some q=>simp;cases q.to==p.from_<;>simp<;>omega
theorem Vt(a b:List aH):(gp a b).length<=2*(a.length+b.length):=by have h:=qK (iy (λ a b=>decide (a<b)) ((a++b).flatMap λr=>[r.from_,r.to]));rw[dR,MR,eZ]at h;exact h
theorem XJ(keep:Bool->Bool->Bool)(a b:List aH):(kH keep a b).length<=2*(a.length+b.length):=by
 have gen:∀(ys ab:List aH),(ys.foldl ext ab).length<=ab.length+ys.length:=by
  intro ys
  induction ys with
  |nil=>intro ab;simp
  |cons y ys ih=>
   intro ab;simp;have:=ih (ext ab y);have:=Vs ab y;omega
 have h:=gen ((eG aH.mk (gp a b)).filter λp=>keep (er a p.from_) (er b p.from_)) [];have h2:=length_filter_le (λ p=>keep (er a p.from_) (er b p.from_)) (eG aH.mk (gp a b));have h3:=(qU aH.mk (gp a b)).1;have h4:=Vt a b;simp at h;unfold kH;omega
theorem ada{keep:Bool->Bool->Bool}{φ:(Bool×Bool×Unit)->Option Bool}(hφ:∀p q,φ (p,q,())=some (keep p q)){a b:List aH}(ha:Can a)(hb:Can b)(hl:a.length+b.length<1099511627)(hn:2*(a.length+b.length)+2<n):G6 n a b φ=some (kH keep a b):=by
 have fl:[a,b].flatten=a++b:=by simp
 have s2:(sub ([a,b]:List (List aH)) 0 2)=[a,b]:=rfl;have q2:be ([a,b]:List (List aH)).length 2=true:=rfl;have hys:=Vt a b;have hfl:((a++b).flatMap λr=>[r.from_,r.to]).length=2*(a.length+b.length):=by rw[MR,eZ]
 unfold G6;rw[s2,q2];simp only[aj];rw[MQ (by rw[fl,eZ];omega) (by simp) (by simp;omega),fl];simp only[ai,length_nil,aI,aj,Rh (l:=a++b) (n:=n) (by rw[eZ];omega) (by rw[eZ];omega)];rw[oQ (by rw[hfl];omega) (by rw[hfl];omega)];simp only[ai,dR,aI,aj];rw[tu (by rw[dR,hfl];omega) (by rw[dR,hfl];omega)];simp only[ai];have hE:iT (iy ke ((a++b).flatMap λr=>[r.from_,r.to]))=gp a b:=rfl;rw[hE];have⟨p1,p2⟩:=qU aH.mk (gp a b);have key:iter (vW n a b φ ((),gp a b)) n ((1:Int),([]:List aH))=some (kH keep a b):=by
  have:=gm (l:=eG aH.mk (gp a b)) (step:=vW n a b φ ((),gp a b)) (λ i (s:List aH)=>(((i+1:Nat):Int),s)) (λ p s=>bif keep (er a p.from_) (er b p.from_)then ext s p else s) (λ s=>s) (λ i s=>s.length<=i)
   (λ i hi s hs=>?_) (λ s hs=>?_) n (by omega) [] (aB _)
  rw[show ((0+1:Nat):Int)=1 from rfl]at this;rw[this,kH,Vr];have hi2:i+1<(gp a b).length:=by omega
  have hi1:i<(gp a b).length:=by omega
  have d:decide (((i+1:Nat):Int)<(((gp a b).length:Nat):Int))=true:=by simp;omega
  have wp:i64.wrap ((i+1:Nat)-1)=(i:Nat):=by rw[mM (by omega) (by omega)];rfl
  have pe:(eG aH.mk (gp a b))[i]=aH.mk (gp a b)[i] (gp a b)[i+1]:=p2 i hi2 hi;rw[pe];have lx:=Vs s (aH.mk (gp a b)[i] (gp a b)[i+1]);have ap:bQ s.length s.length (sub ([(aH.mk (gp a b)[i] (gp a b)[i+1])]:List aH) 0 1).length 1 16=true:=dP (n:=1) (by omega) (by simp[maxLen];omega);have sb:(sub ([(aH.mk (gp a b)[i] (gp a b)[i+1])]:List aH) 0 1)=[aH.mk (gp a b)[i] (gp a b)[i+1]]:=rfl;refine⟨?_,by cases keep (er a (gp a b)[i]) (er b (gp a b)[i])<;>simp<;>omega⟩;simp only[vW,d,aj,wp,bE hi1,bJ hi1,ai,MP (n:=n) ha (show a.length<1099511627776 by omega) (show a.length<n by omega),MP (n:=n) hb (show b.length<1099511627776 by omega) (show b.length<n by omega),hφ];cases hk:keep (er a (gp a b)[i]) (er b (gp a b)[i])with
  |false=>
   simp only[Bool.not_false,aj,aI,ai,ax];rw[bB (by omega)]
  |true=>
   simp only[Bool.not_true,ax,aj];rcases List.eq_nil_or_concat s with rfl|⟨s0,q,GO⟩;have d0:decide ((([]:List aH).length:Nat)>0)=false:=(by simp);simp only[d0,ax,ai,bE hi2,bJ hi2,aj,ap,eu,aI];rw[bB (by omega)];rfl;rw[List.concat_eq_append]at GO;subst GO;have d0:decide (((((s0++[q]).length:Nat):Int))>0)=true:=(by simp<;>omega);have y6:(s0++[q]).length=s0.length+1:=(by simp);have wq:i64.wrap (((s0++[q]).length:Nat)-1)=(s0.length:Nat):=(by rw[mM (by simp) (by omega),y6];rfl);have PJ:cP (s0.length:Nat) (s0++[q]).length=true:=bE (by omega);have g:cd (s0++[q]) ((0:Nat)+(s0.length:Nat))=some q:=(by rw[IW];simp);have z:(((0:Nat):Int)+(s0.length:Nat)).toNat=s0.length:=(by simp);have st:(s0++[q]).set s0.length (aH.mk q.from_ (gp a b)[i+1])=s0++[⟨q.from_,(gp a b)[i+1]⟩]:=(by simp);simp only[d0,aj,wq,PJ,g,ai,Vo];cases hj:q.to==(gp a b)[i]with
   |true=>
    simp only[aj,bE hi2,bJ hi2,ai,z,st];have e:be (s0++[q]).length (s0++[(⟨q.from_,(gp a b)[i+1]⟩:aH)]).length=true:=(by simp);simp only[e,aj,ai,aI];rw[bB (by omega)]
   |false=>
    rw[sb]at ap;simp only[ax,bE hi2,bJ hi2,ai,aj,sb,ap,eu,aI];rw[bB (by omega)]
  have d:decide ((((eG aH.mk (gp a b)).length+1:Nat):Int)<((gp a b).length:Nat))=false:=by simp;omega
  simp only[vW,d,ax,aI,aj]
 rw[key];simp
theorem Cr(keep:Bool->Bool->Bool)(a b:List au):mW keep a b=(aV (a++b)).map λs=>⟨s.x0,s.x1,kH keep (bL a s.x0) (bL b s.x0)⟩:=by
 have gen:∀es:List Int,eG (λ x x'=>(⟨x,x',kH keep (bL a x) (bL b x)⟩:aY)) es=(eG (λ x x'=>(⟨x,x',bL (a++b) x⟩:aY)) es).map λs=>⟨s.x0,s.x1,kH keep (bL a s.x0) (bL b s.x0)⟩:=by
  intro es
  match es with
  |[]|[_]=>rfl
  |x::y::l=>
   rw[lU,lU,bg];congr 1;have:∀es:List Int,eG (λ x x'=>(⟨x,x',kH keep (bL a x) (bL b x)⟩:aY)) es=(eG (λ x x'=>(⟨x,x',bL (a++b) x⟩:aY)) es).map λs=>⟨s.x0,s.x1,kH keep (bL a s.x0) (bL b s.x0)⟩:=by
    intro es
    induction es with
    |nil=>rfl
    |cons x es ih=>
     cases es with
     |nil=>rfl
     |cons y es=>rw[lU,lU,bg,ih]
   exact this (y::l)
 exact gen (eF (a++b))
theorem XK{keep:Bool->Bool->Bool}{φ:(Bool×Bool×Unit)->Option Bool}(hφ:∀p q,φ (p,q,())=some (keep p q)){a b:List au}(ha:a.length<1099511627776)(hb:b.length<1099511627776)(hna:a.length<n)(hnb:b.length<n)(hn:1000<=n):D6 n a b φ=some (gJ keep a b):=by
 unfold D6 gJ;rw[iM ha hna hn,ai];cases hra:cm a with
 |false=>rfl
 |true=>
  rw[iM hb hnb hn];simp;cases hrb:cm b with
  |false=>rfl
  |true=>
   have⟨a1,a2,_⟩:=ji hra;have⟨b1,b2,_⟩:=ji hrb;have fa:[a].flatten=a:=(by simp);have fb:[b].flatten=b:=(by simp);have fab:[a,b].flatten=a++b:=(by simp);have hab:∀r∈a++b,cI r=true:=λr hr=>(by rcases bO.1 hr with hr|hr;exact a1 r hr;exact b1 r hr);have sa:nX n [a]=some (aV a):=by
    have:=xC (n:=n) (ls:=[a]) (by rw[fa];exact a1) (by rw[fa];omega) (by simp) (by rw[fa];omega) (by simp;omega)
    rwa [fa]at this
   have sb:nX n [b]=some (aV b):=by
    have:=xC (n:=n) (ls:=[b]) (by rw[fb];exact b1) (by rw[fb];omega) (by simp) (by rw[fb];omega) (by simp;omega)
    rwa [fb]at this
   have lab:(a++b).length=a.length+b.length:=eZ;have sab:nX n [a,b]=some (aV (a++b)):=by
    have:=xC (n:=n) (ls:=[a,b]) (by rw[fab];exact hab) (by rw[fab,lab];omega) (by simp) (by rw[fab,lab];omega) (by simp;omega)
    rwa [fab]at this
   have e1:(sub ([a]:List (List au)) 0 1)=[a]:=rfl;have e2:(sub ([b]:List (List au)) 0 1)=[b]:=rfl;have e3:(sub ([a,b]:List (List au)) 0 2)=[a,b]:=rfl;have q1:be ([a]:List (List au)).length 1=true:=rfl;have q2:be ([b]:List (List au)).length 1=true:=rfl;have q3:be ([a,b]:List (List au)).length 2=true:=rfl;have la:=tF a;have lb:=tF b;have lS:=tF (a++b);rw[lab]at lS;have mc:∀x,(bL a x).length<=200/\(bL b x).length<=200:=λx=>⟨Nat.le_trans (yI a x) a2,Nat.le_trans (yI b x) b2⟩;have lm:∀x,(kH keep (bL a x) (bL b x)).length<=800:=λx=>(by have:=XJ keep (bL a x) (bL b x);have:=mc x;omega);have key:iter (qi n φ (aV a) (aV b) (aV (a++b))) n ((0:Int),aV (a++b))=some (mW keep a b):=by
    have:=mF (step:=qi n φ (aV a) (aV b) (aV (a++b))) (λ i=>((i:Int),(mW keep a b).take i++(aV (a++b)).drop i)) (aV (a++b)).length (mW keep a b) (λ i hi=>?_) ?_ n (by omega);simpa using this;have d:decide ((i:Int)<(((aV (a++b)).length:Nat):Int))=true:=(by simpa using hi);have lc:(mW keep a b).length=(aV (a++b)).length:=(by rw[Cr,length_map]);have lt:((mW keep a b).take i).length=i:=(by rw[length_take];omega);have hd:(aV (a++b)).drop i=(aV (a++b))[i]::(aV (a++b)).drop (i+1):=List.drop_eq_getElem_cons hi;have g:cd ((mW keep a b).take i++(aV (a++b)).drop i) (((0:Nat):Int)+(i:Nat))=some (aV (a++b))[i]:=(by rw[IW,o7 (by omega),lt,hd];simp);have st:∀s:aY,((mW keep a b).take i++(aV (a++b)).drop i).set i s=(mW keep a b).take i++s::(aV (a++b)).drop (i+1):=(by intro s;rw[List.set_append_right _ _ (by omega),lt,hd,Nat.sub_self];rfl);have z:(((0:Nat):Int)+(i:Nat)).toNat=i:=(by simp);have tk:(mW keep a b).take (i+1)=(mW keep a b).take i++[⟨(aV (a++b))[i].x0,(aV (a++b))[i].x1,kH keep (bL a (aV (a++b))[i].x0) (bL b (aV (a++b))[i].x0)⟩]:=(by rw[jr (by omega)];congr 2;simp[Cr]);have hm:=mc (aV (a++b))[i].x0;have mg:G6 n (bL a (aV (a++b))[i].x0) (bL b (aV (a++b))[i].x0) φ=some (kH keep (bL a (aV (a++b))[i].x0) (bL b (aV (a++b))[i].x0)):=
     ada hφ (tH a1 _).1 (tH b1 _).1 (by omega) (by omega)
    have at1:Vj n (aV a) (aV (a++b))[i].x0=some (bL a (aV (a++b))[i].x0):=(by rw[ac9 (tK a) (by omega) (by omega),vC]);have at2:Vj n (aV b) (aV (a++b))[i].x0=some (bL b (aV (a++b))[i].x0):=(by rw[ac9 (tK b) (by omega) (by omega),vC]);simp only[qi,d,aj,bE hi,g,ai,fF,at1,at2,mg,aI,z,st];rw[bB (by omega),tk,aR];rfl;have lc:(mW keep a b).length=(aV (a++b)).length:=(by rw[Cr,length_map]);have d:decide (((aV (a++b)).length:Nat)<((aV (a++b)).length:Nat))=false:=(by simp);simp[qi,d,ax,List.drop_length,List.append_nil];rw[take_of_length_le (by omega)]
   have lc:(mW keep a b).length=(aV (a++b)).length:=(by rw[Cr,length_map]);have cc:∀s∈mW keep a b,s.column.length<=800:=(by intro s hs;rw[Cr,mem_map]at hs;obtain⟨t,_,rfl⟩:=hs;exact lm _);have sl:sub (mW keep a b) 0 (aV (a++b)).length=mW keep a b:=(by rw[<- lc,fF]);simp[Bool.not_true,ax,e1,e2,e3,q1,q2,q3,aj,sa,sb,sab,ai,fF,aI,key,sl,lc];rw[Qx (b:=800) (by omega) (by omega) cc (by omega) (by omega)];simp[ai,yE,if_true];by_cases pj:(gI (mW keep a b)).length>200;have:decide (((gI (mW keep a b)).length:Int)>200)=true:=(by simp;omega);simp[this,aj,ai,pj,if_true];have:decide (((gI (mW keep a b)).length:Int)>200)=false:=(by simp;omega);simp[this,ax,ai,pj,if_false]
theorem Ep{a b:List au}(ha:a.length<1099511627776)(hb:b.length<1099511627776)(hna:a.length<n)(hnb:b.length<n)(hn:1000<=n):xR n a b=some (gJ (λ p q=>p&&q) a b):=by unfold xR;rw[XK (keep:=λp q=>p&&q) (λ p q=>by show wW p q=_;unfold wW;cases p<;>rfl) ha hb hna hnb hn];rfl
theorem MS{keep:Bool->Bool->Bool}(a b:List au):(gJ keep a b).1.length<=200:=by unfold gJ;split;split;simp;show(gI _).length<=200;omega;simp
def sumTo:Nat->(Nat->Int)->Int
 | 0,_=>0
 |k+1,f=>sumTo k f+f k
theorem sumTo_congr{f g:Nat->Int}:∀n,(∀ i,i<n->f i=g i)->sumTo n f=sumTo n g
 | 0,_=>rfl
 |k+1,h=>by show sumTo k f+f k=sumTo k g+g k;rw[sumTo_congr k λi hi=>h i (by omega),h k (by omega)]
theorem OW(f g:Nat->Int):∀n,sumTo n (λ i=>f i+g i)=sumTo n f+sumTo n g
 | 0=>rfl
 |k+1=>by show sumTo k (λ i=>f i+g i)+(f k+g k)=(sumTo k f+f k)+(sumTo k g+g k);rw[OW f g k];omega
theorem KF:∀n,sumTo n (λ _=>0)=0
 | 0=>rfl
 |k+1=>by show sumTo k (λ _=>0)+0=0;rw[KF k];rfl
theorem Vu c (f:Nat->Int):∀n,sumTo n (λ i=>f i*c)=sumTo n f*c
 | 0=>by simp[sumTo]
 |k+1=>by show sumTo k (λ i=>f i*c)+f k*c=(sumTo k f+f k)*c;rw[Vu c f k,Int.add_mul]
theorem Vv c (f:Nat->Int):∀n,sumTo n (λ i=>c*f i)=c*sumTo n f
 | 0=>by simp[sumTo]
 |k+1=>by show sumTo k (λ i=>c*f i)+c*f k=c*(sumTo k f+f k);rw[Vv c f k,Int.mul_add]
def Er(b:Bool):Int:=bif b then 1 else 0
theorem akr(p q:Bool):Er (p&&q)=Er p*Er q:=by cases p<;>cases q<;>rfl
theorem Hu{a b:Int}(h0:0<=a)(h1:a<=b):∀n:Nat,sumTo n (λ i=>Er (decide (a<=i)&&decide (i<b)))=max 0 (min b n-a)
 | 0=>by show 0=_;omega
 |k+1=>by show sumTo k _+Er (decide (a<=k)&&decide (k<b))=_;rw[Hu h0 h1 k];by_cases c:a<=k<;>by_cases d:k<b<;>simp[Er,c,d]<;>omega
def Ad:Nat:=1048576
def tL(p:Int->Int->Bool):Int:=sumTo Ad λx=>sumTo Ad λy=>Er (p x y)
def Cs(r:au):Int:=(r.x1-r.x0)*(r.y1-r.y0)
def Fb(l:List au):Int:=(l.map Cs).sum
def wz(r:au)(x y:Int):Bool:=(decide (r.x0<=x)&&decide (x<r.x1))&&(decide (r.y0<=y)&&decide (y<r.y1))
theorem Vw{r:au}(h:cI r=true):tL (wz r)=Cs r:=by
 simp at h;have e:∀x:Nat,sumTo Ad (λ y=>Er (wz r x y))=Er (decide (r.x0<=x)&&decide (x<r.x1))*(r.y1-r.y0):=by intro x;rw[sumTo_congr (g:=λy=>Er (decide (r.x0<=x)&&decide (x<r.x1))*Er (decide (r.y0<=y)&&decide (y<r.y1))) Ad λy _=>by rw[wz,akr]];rw[Vv,Hu (by omega) (by omega)];congr 1;have:(Ad:Nat)=1048576:=rfl;omega
 unfold tL;rw[sumTo_congr Ad λx _=>e x,Vu,Hu (by omega) (by omega)];unfold Cs;congr 1;have:(Ad:Nat)=1048576:=rfl;omega
theorem ain{p q r:Int->Int->Bool}(h:∀x y,Er (r x y)=Er (p x y)+Er (q x y)):tL r=tL p+tL q:=by unfold tL;rw[<- OW];refine sumTo_congr _ λx _=>?_;rw[<- OW];exact sumTo_congr _ λy _=>h x y
theorem Ae{p q:Int->Int->Bool}(h:∀x y,p x y=q x y):tL p=tL q:=by have:p=q:=funext λx=>funext λy=>h x y;rw[this]
theorem QF:tL (λ _ _=>false)=0:=by exact(sumTo_congr (g:=λ_=>0) Ad λx _=>KF Ad).trans (KF _)
theorem wB{r:au}(h:cI r=true):0<=Cs r/\Cs r<=1099511627776:=by simp at h;unfold Cs;refine⟨Int.mul_nonneg (by omega) (by omega),?_⟩;have:=Int.mul_le_mul (show r.x1-r.x0<=1048576 by omega) (show r.y1-r.y0<=1048576 by omega) (by omega) (by omega);omega
theorem Vx:∀{l:List au},(∀ r∈l,cI r=true)->0<=Fb l/\Fb l<=1099511627776*l.length
 |[],_=>by simp[Fb]
 |r::l,h=>by
  have h1:=wB (h r List.mem_cons_self);have h2:=Vx (l:=l) λq hq=>h q (cO _ hq);have e:Fb (r::l)=Cs r+Fb l:=rfl;rw[e,fG]
  push_cast
  omega
theorem Hw{l:List au}{φ:(au×Unit)->Option Bool}(p:au->Bool)(h:∀x∈l,φ (x,())=some (p x))(hl:l.length<1099511627776)(hn:l.length<n):sO n l φ=some (AB p l):=iG p h hl hn
theorem rz{l:List au}{φ:(au×Unit)->Option Bool}(p:au->Bool)(h:∀x∈l,φ (x,())=some (p x))(hl:l.length<1099511627776)(hn:l.length<n):jq n l φ=some (l.any p):=by unfold jq;rw[Hw p h hl hn,ai,wR]
theorem Zk:∀(l:List Int) x,(l++[x]).sum=l.sum+x
 |[],x=>by simp
 |a::l,x=>by rw[List.cons_append,List.sum_cons,List.sum_cons,Zk l x];omega
theorem aio{r:au}(h:cI r=true):oh r=some (Cs r):=by have hb:=wB h;unfold oh xQ;rw[jc,h];simp;simp at h;unfold Cs at*;rw[bZ (x:=r.x1-r.x0),bZ (x:=r.y1-r.y0),bZ (by omega) (by omega)]
theorem Es{a:List au}(ha:a.length<=900)(hn:1000<=n):MF n a=some (bif cm a then Fb a else 0):=by
 unfold MF;rw[iM (by omega) (by omega) hn];simp;cases hr:cm a with
 |false=>rfl
 |true=>
  have ok:=(ji hr).1;have:=mF (step:=D7 a) (λ i=>(Fb (a.take i),(i:Nat))) a.length (Fb a) (λ i hi=>?_) ?_ n (by omega);have e:Fb (a.take 0)=0:=rfl;rw[e,k8]at this;simp[this];have c:decide ((i:Int)<a.length)=true:=by simpa using hi
  have h1:=Vx (l:=a.take i) λr hr=>ok r (List.mem_of_mem_take hr);rw[length_take]at h1;have h2:=wB (ok _ (getElem_mem hi));have e:Fb (a.take (i+1))=Fb (a.take i)+Cs a[i]:=by rw[jr hi];unfold Fb;rw[map_append];exact Zk _ _
  simp only[D7,c,aj,bf hi,ai,aio (ok _ (getElem_mem hi))];rw[bB (by omega),bZ (by omega) (by omega),e];simp[D7]
theorem OX{α:Type}(p:α->Bool) l:(match oq p l with|some _=>true|none=>false)=l.any p:=by have:=rV p l;rw[<- this];cases oq p l<;>rfl
def H2(p q:au):Bool:=decide (max p.x0 q.x0<min p.x1 q.x1)&&decide (max p.y0 q.y0<min p.y1 q.y1)
def J5(a b:List au):Bool:=a.any λp=>b.any λq=>H2 p q
theorem afv{a b:List au}(ha:a.length<1099511627776)(hb:b.length<1099511627776)(hna:a.length<n)(hnb:b.length<n):Sz n a b=some (J5 a b):=by
 unfold Sz J5;rw[rz (λ p=>b.any λq=>H2 p q) (λ p _=>?_) ha hna];rfl;show Ed n p b=_;unfold Ed;rw[rz (λ q=>H2 p q) (λ q _=>?_) hb hnb];rfl;show vv q p=_;unfold vv H2;have e1:max q.x0 p.x0=max p.x0 q.x0:=by omega
 have e2:min q.x1 p.x1=min p.x1 q.x1:=by omega
 have e3:max q.y0 p.y0=max p.y0 q.y0:=by omega
 have e4:min q.y1 p.y1=min p.y1 q.y1:=by omega
 first
  |(cases decide (max p.x0 q.x0<min p.x1 q.x1)<;>rfl)
  |(rw [e1,e2,e3,e4];cases decide (max p.x0 q.x0<min p.x1 q.x1)<;>rfl)
theorem afw{a b:List au}(hl:a.length<1099511627776)(hn:a.length<n):Sy n a b=some (decide (a=b)):=by unfold Sy;rw[Cn hl hn];rfl
abbrev qe(a b:au):Bool:=decide (a.y0<b.y0)
theorem Je:Go.Sort.SWO qe where
 irrefl x:=by simp[qe]
 trans x y z h1 h2:=by simp only[qe,bM]at *;omega
 ntrans x y z h1 h2:=by simp only[qe,dU]at *;omega
instance:Inhabited au:=⟨au.mk 0 0 0 0⟩
theorem Jl{l:List au}{φ:(au×au×Unit)->Option Int}(f:au->au->Int)(hφ:∀x y,φ (x,y,())=some (f x y))(hf:∀x y,decide (f x y<0)=qe x y)(hl:l.length<1099511627776)(_:l.length<n):uT n l φ=some (mX qe l):=
 acW f hφ hf Je hl
theorem Vy(x0 x1:Int) c:(jZ x0 x1 c).length=c.length:=by simp[jZ]
structure ane(R:List aY):Prop where
 runs:Runs R
 len:R.length<=200
 col:∀s∈R,Can s.column/\∀q∈s.column,0<=q.from_/\q.from_<q.to/\q.to<=1048576
 xs:∀s∈R,0<=s.x0/\s.x0<s.x1/\s.x1<=1048576
 xf:(R.flatMap λs=>s.column.map (·.from_)).length<=200
theorem ade R:(lT R).length=(R.flatMap λs=>s.column.map (·.from_)).length:=by
 induction R with
 |nil=>rfl
 |cons s R ih=>
  have e:lT (s::R)=jZ s.x0 s.x1 s.column++lT R:=rfl;rw[e,eZ,ih,List.flatMap_cons,eZ,Vy,length_map]
theorem adf:∀{R:List aY},Runs R->R.length<=(lT R).length
 |[],_=>by simp
 |s::R,h=>by have hh:=j6 h;have e:lT (s::R)=jZ s.x0 s.x1 s.column++lT R:=rfl;have:=adf (je h);have:=List.length_pos_iff.2 hh.2;rw[e,eZ,Vy,fG];omega
theorem afx{a:List au}(h:cm a=true):ane (J3 (aV a))/\lT (J3 (aV a))=a/\∀x,jD (J3 (aV a)) x=bL a x:=by
 have⟨hv,hl,hw⟩:=ji h;have⟨r1,r2⟩:=yK (tK a);rw[wu]at hw;have hc:∀x,jD (J3 (aV a)) x=bL a x:=λx=>by rw[r2,vC]
 have ZZ:∀s∈J3 (aV a),∀q∈s.column,cI ⟨s.x0,q.from_,s.x1,q.to⟩=true:=λs hs q hq=>hv _ (by rw[<- hw];exact QC.2 ⟨s,hs,q,hq,rfl⟩);refine⟨⟨r1,?_,λs hs=>⟨?_,λq hq=>?_⟩,λs hs=>?_,?_⟩,hw,hc⟩;have:=adf r1;rw[hw]at this;omega;have⟨m1,m2⟩:=Ac r1 s hs;have:=m2 s.x0 (Int.le_refl _) m1;rw[hc]at this;rw[<- this];exact(tH hv s.x0).1;have:=ZZ s hs q hq;simp at this;omega;have⟨m1,m2⟩:=Ac r1 s hs;have hne:s.column≠[]:=by
  intro e;have:=m2 s.x0 (Int.le_refl _) m1;have h3:∃i,∃hi:i<(J3 (aV a)).length,(J3 (aV a))[i]=s:=mem_iff_getElem.1 hs;have:∀{R:List aY},Runs R->∀s∈R,s.column≠[]:=by
   intro R
   induction R with
   |nil=>intro _ s hs;simp at hs
   |cons t R ih=>
    intro hR s hs;rcases aP.1 hs with rfl|hs;exact(j6 hR).2;exact ih (je hR) s hs
  exact this r1 s hs e
 obtain⟨q,hq⟩:=List.exists_mem_of_ne_nil _ hne;have:=ZZ s hs q hq;simp at this;omega;rw[<- ade,hw];exact hl
theorem Zl:∀{R:List aY},Runs R->R.Pairwise (λ s t=>s.x1<=t.x0)
 |[],_=>List.Pairwise.nil
 |[s],_=>by simp
 |s::t::R,h=>by have ih:=Zl (je h);refine pairwise_cons.2 ⟨λ u hu=>?_,ih⟩;rcases aP.1 hu with rfl|hu;exact h.2.1;have:=(pairwise_cons.1 ih).1 u hu;have:=(j6 (je h)).1;have:=h.2.1;omega
theorem afy(p:Nat->Bool)(N:Nat):(oq p (List.range N)=none->(List.range N).any p=false)/\(∀ i,oq p (List.range N)=some i->(List.range N).any p=true):=by refine⟨λ h=>?_,λi h=>?_⟩;rw[<- rV,h];rfl;rw[<- rV,h];rfl
theorem Hy{W O:Type}{step:Int->Option (Int⊕(W⊕O))}(N:Nat)(p:Nat->Bool)(w:W)(o:O)
 (h:∀i,i<N->step i=some (bif p i then .inr (.inr o)else .inl (i+1:Nat)))
 (hend:step N=some (.inr (.inl w))) (n:Nat) (hn:N<n):iter step n 0=some (bif (List.range N).any p then .inr o else .inl w):=by
 have:=qZ (l:=List.range N) (step:=step) (λ i=>(i:Nat)) p w (λ _=>o) (λ i hi=>by rw[List.length_range]at hi;rw[List.getElem_range];exact h i hi) (by rw[List.length_range];exact hend) n (by rw[List.length_range];exact hn);rw[k8]at this;rw[this];have⟨r1,r2⟩:=afy p N;cases hf:oq p (List.range N)with
 |none=>rw[r1 hf];rfl
 |some i=>rw[r2 i hf];rfl
theorem Hz{p:List bK}(hl:p.length<=1000)(hn:2000<=n):iter (pG n p (fC p)) n 0=some (bif (List.range p.length).any (wg p)then .inr false else .inl ()):=by
 refine Hy p.length (wg p) () false (λ i hi=>?_) ?_ n (by omega);have nz:((p.length:Int) !=0)=true:=by simp;intro h;rw[h]at hi;simp at hi
 have md:(i+1)%p.length<p.length:=Nat.mod_lt _ (by omega);have w:i64.wrap (i+1)=(i+1:Nat):=bB (by omega);have g1:cd (fC p) ((0:Nat)+(i:Nat))=some (fK p i):=by rw[bJ (by rw[dM];exact hi),yJ]
 have g2:cd (fC p) ((0:Nat)+((i+1)%p.length:Nat))=some (fK p ((i+1)%p.length)):=by rw[bJ (by rw[dM];exact md),yJ]
 obtain⟨r,hr1,hr2⟩:=KA (n:=n) (mz p 0) (mz p i) (by omega);have g3:cd p 0=some (mz p 0):=by rw[alC (by omega),<- SB]
 have g4:cd p (i:Nat)=some (mz p i):=by rw[bf hi,<- SB]
 have dz:decide ((i:Int)>0)=decide (0<i):=by rw[dw];simp
 have pt:bK.mk (fK p i).j0 (fK p i).nb=mz p i:=rfl;simp only[pG,dM,cu hi,aj,bE hi,g1,g2,ai,nz,w,Zf,bE md,pt,ML,mV,OU,g3,g4,hr1,hr2,dz,Option.map_some];unfold wg;generalize Ej (mz p i)=b1;generalize (((fK p i).j0==(fK p i).kA)==((fK p i).nb==(fK p i).rI))=b2;generalize (rk (fK p i)==rk (fK p ((i+1)%p.length)))=b3;generalize decide (0<i)=b4;generalize El (mz p 0) (mz p i)=b5;cases b1<;>cases b2<;>cases b3<;>cases b4<;>cases b5<;>rfl;simp[pG,dM]
theorem HV{p:List bK}(hl:p.length<=1000)(hn:2000<=n){i:Nat}(hi:i<p.length):
 iter (ja (fC p) (i:Nat)) n ((i+2:Nat))=some (bif (List.range p.length).any λk=>decide (i+2<=k)&&MN p i k then .inr (.inr (.inr false))else .inl ()):=by
 have st:∀k,k<p.length->ja (fC p) (i:Nat) (k:Nat)=some (bif MN p i k then .inr (.inr (.inr (.inr false)))else .inl (k+1:Nat)):=by
  intro k hk;have g1:cd (fC p) ((0:Nat)+(i:Nat))=some (fK p i):=by rw[bJ (by rw[dM];exact hi),yJ]
  have g2:cd (fC p) ((0:Nat)+(k:Nat))=some (fK p k):=by rw[bJ (by rw[dM];exact hk),yJ]
  have w:i64.wrap (i64.wrap ((i:Nat)+(p.length:Nat))-(k:Nat))=(i+p.length-k:Nat):=by rw[bZ (x:=(i:Nat)+(p.length:Nat)),bZ (by omega) (by omega)];omega
  have dz:decide (((i+p.length-k:Nat):Int)>1)=decide (i+p.length-k>1):=by rw[dw,bM,bM];omega
  simp only[ja,dM,cu hk,aj,bE hi,bE hk,g1,g2,ai,w,dz,Cq,OU,Option.map_some,aQ k];unfold MN;cases decide (i+p.length-k>1)<;>cases Kz (fK p i) (fK p k)<;>rfl
 have main:∀m k,k+m=p.length->∀f,m<f->iter (ja (fC p) (i:Nat)) f (k:Nat)=some (bif (List.range p.length).any λj=>decide (k<=j)&&MN p i j then .inr (.inr (.inr false))else .inl ()):=by
  intro m
  induction m with
  |zero=>
   intro k hk f hf;obtain⟨f,rfl⟩:∃g,f=g+1:=⟨f-1,by omega⟩;have:k=p.length:=(by omega);subst this;have e:((List.range p.length).any λj=>decide (p.length<=j)&&MN p i j)=false:=(by rw[Bool.eq_false_iff];intro h;rw[any_eq_true]at h;obtain⟨j,h1,h2⟩:=h;rw[List.mem_range]at h1;simp at h2;omega);rw[e];refine jl ?_;simp[ja,dM]
  |succ m ih=>
   intro k hk f hf;obtain⟨f,rfl⟩:∃g,f=g+1:=⟨f-1,by omega⟩;have hkl:k<p.length:=(by omega);have h1:=st k hkl;cases hb:MN p i k with
   |true=>
    rw[hb]at h1;have e:((List.range p.length).any λj=>decide (k<=j)&&MN p i j)=true:=(by rw[any_eq_true];exact⟨k,List.mem_range.2 hkl,by simp[hb]⟩);rw[e];exact jl h1
   |false=>
    rw[hb]at h1;rw[mO h1,ih (k+1) (by omega) f (by omega)];congr 2;rw[dw,any_eq_true,any_eq_true];constructor;rintro⟨j,j1,j2⟩;simp at j2;exact⟨j,j1,by simp;exact⟨by omega,j2.2⟩⟩;rintro⟨j,j1,j2⟩;simp at j2;refine⟨j,j1,?_⟩;simp;refine⟨?_,j2.2⟩;rcases Nat.lt_or_ge k j with h|h;omega;have:j=k:=(by omega);subst this;rw[hb]at j2;simp at j2
 by_cases h2:i+2<=p.length;exact main (p.length-(i+2)) (i+2) (by omega) n (by omega);obtain⟨n,rfl⟩:∃g,n=g+1:=⟨n-1,by omega⟩;have e:((List.range p.length).any λj=>decide (i+2<=j)&&MN p i j)=false:=by rw[Bool.eq_false_iff];intro h;rw[any_eq_true]at h;obtain⟨j,h1,h2⟩:=h;rw[List.mem_range]at h1;simp at h2;omega
 rw[e];have d:decide (((i+2:Nat):Int)<(p.length:Nat))=false:=by rw[dU];omega
 refine jl ?_;simp only[ja,dM,d,ax]
theorem HY{p:List bK}(hl:p.length<=1000)(hn:2000<=n):iter (pI n (fC p)) n 0=some (bif (List.range p.length).any λi=>(List.range p.length).any λk=>decide (i+2<=k)&&MN p i k then .inr false else .inl ()):=by
 refine Hy p.length _ () false (λ i hi=>?_) ?_ n (by omega);have w2:i64.wrap (i+2)=(i+2:Nat):=by rw[bZ (by omega) (by omega)];omega
 simp only[pI,dM,cu hi,aj,w2,HV hl hn hi,aQ i];cases (List.range p.length).any λk=>decide (i+2<=k)&&MN p i k<;>rfl;simp[pI,dM]
theorem OY p (hn:2000<=n):ve n p=some (Em p):=by
 unfold ve Em;by_cases h4:p.length<4;have d1:decide ((p.length:Int)<4)=true:=by simp;omega
 have d2:decide (4<=p.length)=false:=by simp;omega
 rw[d1,d2];rfl;have d1:decide ((p.length:Int)<4)=false:=by simp;omega
 have d2:decide (4<=p.length)=true:=by simp;omega
 by_cases h60:p.length>60;have d3:decide ((p.length:Int)>60)=true:=by simp;omega
 have d4:decide (p.length<=60)=false:=by simp;omega
 rw[d1,d2,d3,d4];rfl;have d3:decide ((p.length:Int)>60)=false:=by simp;omega
 have d4:decide (p.length<=60)=true:=by simp;omega
 have g:cd (fC p) ((0:Nat)+0)=some (fK p 0):=by have:=bJ (l:=fC p) (i:=0) (by rw[dM];omega);rw[yJ]at this;exact this
 have i0:cP 0 (fC p).length=true:=by have:=bE (i:=0) (n:=(fC p).length) (by rw[dM];omega);simpa using this
 rw[d1,d2,d3,d4];simp only[ax,ai,Ab (n:=n) (p:=p) (by omega) (by omega),Hz (n:=n) (p:=p) (by omega) hn,Bool.true_and];cases (List.range p.length).any (wg p)with
 |true=>rfl
 |false=>
  simp only[ax,fO,HY (n:=n) (p:=p) (by omega) hn];cases (List.range p.length).any λi=>(List.range p.length).any λk=>decide (i+2<=k)&&MN p i k with
  |true=>rfl
  |false=>
   simp only[ax,fO,i0,aj,g,ai,mV];rfl
def tN(p:List bK)(x:Int):List Int:=((fC p).filter λs=>!rk s&&(decide (min s.j0 s.kA<=x)&&decide (x<max s.j0 s.kA))).map (·.nb)
def uD(x0 x1:Int):List Int->List au
 |a::b::l=>⟨x0,a,x1,b⟩::uD x0 x1 l
 |_=>[]
def lw(p:List bK):List Int:=wa (p.map (·.x))
def ES(p:List bK):List au:=(eG (λ a b=>uD a b (iy ke (tN p a))) (lw p)).flatten
def nK(p:List bK):List au×Int:=if Em p=true then(if (ES p).length>200 then([],6)else(ES p,0))else([],10)
theorem afz{p:List bK}(h:Em p=true):4<=p.length/\p.length<=60:=by unfold Em at h;simp at h;exact⟨h.1,h.2.1⟩
theorem Fe{p:List bK}(hl:p.length<=1000)(hn:2000<=n):iter (lH p) n (0,[])=some (p.map (·.x)):=by
 have:=gm (l:=p) (step:=lH p) (λ i s=>(i,s)) (λ r s=>s++[r.x]) (λ s=>s) (λ i s=>s.length<=i)
  (λ i hi s hs=>?_) (λ s hs=>by simp[lH]) n (by omega) [] (aB _)
 rw[k8]at this;rw[this];have gen:∀(ys:List bK) s,ys.foldl (λ s r=>s++[r.x]) s=s++ys.map (·.x):=by
  intro ys
  induction ys with
  |nil=>intro s;simp
  |cons y ys ih=>intro s;rw[foldl_cons,ih];simp
 congr 1;simpa using gen p [];have ap:bQ s.length s.length (sub ([(p[i]).x]:List Int) 0 1).length 1 8=true:=dP (n:=1) (by omega) (by simp[maxLen];omega);simp only[lH,cu hi,aj,bf hi,ai,ap,eu,aI];refine⟨?_,by simp;omega⟩;rw[bB (by omega)];rfl
theorem Ff{p:List bK}(hl:p.length<=1000)(hn:2000<=n) es (i:Nat) (hi:i<es.length):iter (lI ((),es) (fC p) (i:Nat)) n (0,[])=some (tN p es[i]):=by
 have:=gm (l:=fC p) (step:=lI ((),es) (fC p) (i:Nat)) (λ i s=>(i,s)) (λ r s=>bif !rk r&&(decide (min r.j0 r.kA<=es[i])&&decide (es[i] <max r.j0 r.kA))then s++[r.nb]else s) (λ s=>s) (λ i s=>s.length<=i)
  (λ j hj s hs=>?_) (λ s hs=>by simp[lI]) n (by rw[dM];omega) [] (aB _)
 rw[k8]at this;rw[this];have gen:∀(ys:List iH) s,ys.foldl (λ s r=>bif !rk r&&(decide (min r.j0 r.kA<=es[i])&&decide (es[i] <max r.j0 r.kA))then s++[r.nb]else s) s=s++(ys.filter λs=>!rk s&&(decide (min s.j0 s.kA<=es[i])&&decide (es[i] <max s.j0 s.kA))).map (·.nb):=by
  intro ys
  induction ys with
  |nil=>intro s;simp
  |cons y ys ih=>
   intro s;rw[foldl_cons,ih,List.filter_cons];cases !rk y&&(decide (min y.j0 y.kA<=es[i])&&decide (es[i] <max y.j0 y.kA))<;>simp
 congr 1;exact gen (fC p) [];rw[dM]at hj;have g:cd (fC p) ((0:Nat)+(j:Nat))=some (fC p)[j]:=bJ (by rw[dM];exact hj);have ap:bQ s.length s.length (sub ([((fC p)[j]'(by rw[dM];exact hj)).nb]:List Int) 0 1).length 1 8=true:=dP (n:=1) (by omega) (by simp[maxLen];omega);generalize hr:(fC p)[j]'(by rw[dM];exact hj)=r at*;simp only[lI,dM,cu hj,aj,bE hj,g,ai,mV,bE hi,bJ hi,OU,ap,eu,aI,aQ j];cases rk r<;>cases decide (min r.j0 r.kA<=es[i])<;>cases decide (es[i] <max r.j0 r.kA)<;>refine⟨rfl,?_⟩<;>simp<;>omega
theorem Zm(x0 x1:Int):∀l:List Int,(uD x0 x1 l).length<=l.length
 |[]|[_]=>by simp[uD]
 |a::b::l=>by have:=Zm x0 x1 l;simp[uD];omega
theorem Fg es (i:Nat) (hi:i+1<es.length) (he:es.length<=10000) (w2 r8:List Int) (hw:w2.length=r8.length) (hr:r8.length<=1000) ab (ho:ab.length<=10000000) (hn:2000<=n):
 iter (jy ((),es) (i:Nat) w2 r8) n (0,ab)=some (ab++uD (es[i]'(by omega)) es[i+1] r8):=by
 have main:∀(m k:Nat) ab,k+m=r8.length->ab.length<=10000000+k->∀f,m<f->iter (jy ((),es) (i:Nat) w2 r8) f ((k:Nat),ab)=some (ab++uD (es[i]'(by omega)) es[i+1] (r8.drop k)):=by
  intro m
  induction m using Nat.strongRecOn with
  |ind m ih=>
   intro k ab hk hko f hf;obtain⟨f,rfl⟩:∃g,f=g+1:=⟨f-1,by omega⟩;have w1:i64.wrap (k+1)=(k+1:Nat):=bB (by omega);have w3:i64.wrap (k+2)=(k+2:Nat):=(by rw[bZ (by omega) (by omega)];omega);have w4:i64.wrap (i+1)=(i+1:Nat):=bB (by omega);by_cases h2:k+1<r8.length;have d:decide (((k+1:Nat):Int)<(w2.length:Nat))=true:=(by rw[hw];exact cu h2);have ap:bQ ab.length ab.length (sub ([(au.mk (es[i]'(by omega)) (r8[k]'(by omega)) es[i+1] r8[k+1])]:List au) 0 1).length 1 32=true:=dP (n:=1) (by omega) (by simp[maxLen];omega);have st:jy ((),es) (i:Nat) w2 r8 ((k:Nat),ab)=some (.inl ((k+2:Nat),ab++[au.mk (es[i]'(by omega)) (r8[k]'(by omega)) es[i+1] r8[k+1]])):=(by simp only[jy,w1,w3,w4,d,aj,bE (show i<es.length by omega),bJ (show i<es.length by omega),ai,bE (show k<w2.length by omega),bJ (show k<r8.length by omega),bE hi,bJ hi,bE (show k+1<w2.length by omega),bJ h2,ap,eu,aI];rfl);have dr:r8.drop k=r8[k]::r8[k+1]::r8.drop (k+2):=(by rw[List.drop_eq_getElem_cons (by omega),List.drop_eq_getElem_cons h2]);rw[mO st,ih (m-2) (by omega) (k+2) _ (by omega) (by rw[eZ,List.length_singleton];omega) f (by omega),dr];simp[uD];have d:decide (((k+1:Nat):Int)<(w2.length:Nat))=false:=(by rw[hw,dU];omega);have e:uD (es[i]'(by omega)) es[i+1] (r8.drop k)=[]:=by
    have hl:(r8.drop k).length<=1:=by rw[length_drop];omega
    match r8.drop k,hl with
    |[],_|[_],_=>rfl
    |_::_::_,h=>simp at h
   rw[e,List.append_nil];refine jl ?_;simp only[jy,w1,d,ax,aI,aj]
 have:=main r8.length 0 ab (by omega) (by omega) n (by omega);rw[k8,List.drop_zero]at this;exact this
theorem alV p:(lw p).length<=p.length:=by have h:=qK (iy ke (p.map (·.x)));rw[dR,length_map]at h;exact h
theorem Vz p x:(tN p x).length<=p.length:=by unfold tN;rw[length_map,<- dM p];exact length_filter_le _ _
theorem HZ{α:Type}(b:Nat):∀l:List (List α),(∀ x∈l,x.length<=b)->l.flatten.length<=l.length*b
 |[],_=>by simp
 |x::l,h=>by have h1:=HZ b l λy hy=>h y (cO _ hy);have h2:=h x List.mem_cons_self;rw[List.flatten_cons,eZ,fG,Nat.add_mul];omega
theorem Fh{p:List bK}(hl:p.length<=1000)(hn:2000<=n):
 iter (lJ n ((),lw p) (fC p)) n (0,[])=some (ES p):=by
 have hx:=alV p;obtain⟨p1,p2⟩:=qU (λ a b=>uD a b (iy ke (tN p a))) (lw p)
 let C:=eG (λ a b=>uD a b (iy ke (tN p a))) (lw p)
 have hC:C.length=(lw p).length-1:=p1;have cl:∀c∈C,c.length<=1000:=by intro c hc;obtain⟨i,hi,rfl⟩:=mem_iff_getElem.1 hc;have:=p2 i (by omega) hi;show(C[i]).length<=1000;rw[show C[i]=_ from this];have h1:=Zm (lw p)[i] (lw p)[i+1] (iy ke (tN p (lw p)[i]));rw[dR]at h1;have h2:=Vz p (lw p)[i];omega
 have bl:∀i,((C.take i).flatten).length<=1000*1000:=by
  intro i;have h1:=HZ 1000 (C.take i) λx hx=>cl x (List.mem_of_mem_take hx);have h2:(C.take i).length<=1000:=by rw[length_take];omega
  exact Nat.le_trans h1 (Nat.mul_le_mul_right _ h2)
 have main:=mF (step:=lJ n ((),lw p) (fC p)) (λ i=>((i:Nat),(C.take i).flatten)) C.length (ES p) (λ i hi=>?_) ?_ n (by omega);simpa using main;have hi2:i+1<(lw p).length:=by omega
 have hw:i64.wrap (((lw p).length:Nat)-1)=(C.length:Nat):=by rw[bZ (by omega) (by omega)];omega
 have bi:=bl i;have cr:=Vz p (lw p)[i];have e:C.take (i+1)=C.take i++[uD (lw p)[i] (lw p)[i+1] (iy ke (tN p (lw p)[i]))]:=by rw[jr hi];congr 2;exact p2 i hi2 hi
 simp only[lJ,hw,cu hi,aj,length_nil,aI,Ff hl hn (lw p) i (by omega),ai];rw[oQ (by omega) (by omega)];simp;rw[Fg (lw p) i hi2 (by omega) (tN p (lw p)[i]) (iy ke (tN p (lw p)[i])) (by rw[dR]) (by rw[dR];omega) _ (by omega) hn];simp[e,aQ i];have hw:i64.wrap (((lw p).length:Nat)-1)=((lw p).length:Nat)-1:=bZ (by omega) (by omega);have d:decide ((C.length:Int)<((lw p).length:Nat)-1)=false:=by rw[dU];omega
 simp[lJ,hw,d];rfl
theorem MU p (hn:2000<=n):sI n p=some (nK p):=by
 unfold sI nK;rw[OY p hn];simp;cases hr:Em p with
 |false=>rfl
 |true=>
  have⟨_,hl⟩:=afz hr;simp[Fe (n:=n) (p:=p) (by omega) hn];rw[oQ (by rw[length_map];omega) (by rw[length_map];omega)];simp[dR];rw[tu (by rw[dR,length_map];omega) (by rw[dR,length_map];omega)];simp[Ab (n:=n) (p:=p) (by omega) (by omega)];have hE:iT (iy ke (p.map (·.x)))=lw p:=rfl;rw[hE,Fh (by omega) hn];simp;by_cases pj:(ES p).length>200;have:decide ((((ES p).length:Nat):Int)>200)=true:=by simp;omega
  rw[this,bA pj];rfl;have:decide ((((ES p).length:Nat):Int)>200)=false:=by simp;omega
  rw[this,bn pj];rfl
theorem adg p:(nK p).1.length<=200:=by unfold nK;split;split;simp;simp;omega;simp
def Cp(a b:au):Int:=bif(!cI a || !cI b)then -1 else max (max 0 (i64.wrap ((max a.x0 b.x0)-(min a.x1 b.x1)))) (i64.wrap ((max a.y0 b.y0)-(min a.y1 b.y1)))
theorem adh(a b:au):Ly a b=some (Cp a b):=by unfold Ly Cp;rw[jc,jc];simp only[ai];cases cI a<;>cases cI b<;>rfl
def T0:dO:=dO.mk 0 0 [] []
def fq(land:List dO)(id:Int):dO×Bool:=match land.find? λt=>t.id==id with
 |some t=>(t,true)
 |none=>(T0,false)
theorem VA{α:Type}(p:α->Bool) l:(∃ (i:Nat) (h:i<l.length),oq p l=some i/\l.find? p=some l[i])\/(oq p l=none/\l.find? p=none):=by rcases DL p l with ⟨i,hi,h1,h2,h3⟩|⟨h1,h2⟩;refine .inl ⟨i,hi,h1,?_⟩;rw[List.find?_eq_some_iff_getElem];exact⟨h2,i,hi,rfl,λj hj=>by simpa using h3 j hj⟩;refine .inr ⟨h1,?_⟩;rw[List.find?_eq_none];intro x hx;rw[h2 x hx];simp
def anY(t:bS)(name:ByteArray):Int:=match t.rows.find? λe=>ByteArray.toList e.name==ByteArray.toList name with
 |some e=>e.n
 |none=>t.rh
theorem VB{α:Type}(p:α->Bool) l:(∃ (i:Nat) (h:i<l.length),AB p l=i/\l.find? p=some l[i])\/(AB p l=-1/\l.find? p=none):=by rcases VA p l with ⟨i,hi,h1,h2⟩|⟨h1,h2⟩;exact .inl ⟨i,hi,by simp[AB,h1],h2⟩;exact .inr ⟨by simp[AB,h1],h2⟩
def akt:List ByteArray:=[⟨#[104,111,109,101]⟩,⟨#[115,104,111,112]⟩,⟨#[119,111,114,107]⟩,⟨#[112,97,114,107]⟩,⟨#[112,108,97,110,116]⟩,⟨#[104,97,108,108]⟩]
def nameOf(use:Int):Option ByteArray:=cd akt use
theorem adi{V O:Type}{step:V->Option (V⊕O)}(R:Nat->V->Prop)(N:Nat)(Q:O->Prop)(h:∀i v,i<N->R i v->∃v',step v=some (.inl v')/\R (i+1) v')(hN:∀v,R N v->∃o,step v=some (.inr o)/\Q o):
 ∀n,N<n->∀v,R 0 v->∃o,iter step n v=some o/\Q o:=by
 have main:∀k i n v,i+k=N->k<n->R i v->∃o,iter step n v=some o/\Q o:=by
  intro k
  induction k with
  |zero=>
   intro i n v hi hn hR;obtain⟨m,rfl⟩:∃m,n=m+1:=⟨n-1,by omega⟩;have:i=N:=(by omega);subst this;have⟨o,h1,h2⟩:=hN v hR;exact⟨o,jl h1,h2⟩
  |succ k ih=>
   intro i n v hi hn hR;obtain⟨m,rfl⟩:∃m,n=m+1:=⟨n-1,by omega⟩;obtain⟨v',h1,h2⟩:=h i v (by omega) hR;obtain⟨o,h3,h4⟩:=ih (i+1) m v' (by omega) (by omega) h2;exact⟨o,by rw[mO h1,h3],h4⟩
 intro n hn v hR;exact main N 0 n v (by omega) hn hR
def qV(z:dh):List au:=if (nK z.corners).2=0 then(nK z.corners).1 else []
theorem afB(z:dh):(qV z).length<=200:=by unfold qV;split;exact adg _;simp
theorem Ri(z:dh)(hn:2000<=n):wX n z=some (qV z):=by
 unfold wX qV;rw[MU _ hn];simp;by_cases h:(nK z.corners).2=0;have:((nK z.corners).2 !=0)=false:=by simp[h]
 rw[this,bA h];rfl;have:((nK z.corners).2 !=0)=true:=by simp[h]
 rw[this,bn h];rfl
def iO(a b:au):au:=⟨max a.x0 b.x0,max a.y0 b.y0,min a.x1 b.x1,min a.y1 b.y1⟩
theorem Et(a:au):xQ a=some (bif cI a then(a,true)else(⟨0,0,0,0⟩,false)):=by unfold xQ;rw[jc];simp[OU]
theorem tO(a b:au):q9 a b=some (bif cI a&&(cI b&&cI (iO a b))then(iO a b,true)else(⟨0,0,0,0⟩,false)):=by unfold q9;rw[jc,jc];simp only[ai,OU];rw[show au.mk (max a.x0 b.x0) (max a.y0 b.y0) (min a.x1 b.x1) (min a.y1 b.y1)=iO a b from rfl,Et];simp only[ai];generalize cI (iO a b)=c;cases cI a<;>cases cI b<;>cases c<;>rfl
def yL(r:au):Int:=i64.wrap (i64.wrap (r.x1-r.x0)*i64.wrap (r.y1-r.y0))
theorem Ct{r:au}(h:cI r=true):oh r=some (yL r):=by unfold oh;rw[Et,h];rfl
def Eu(x:au)(n:Int)(y:au):Int:=bif cI x&&(cI y&&cI (iO x y))then i64.wrap (n+yL (iO x y))else n
def xE(a b:List au):Int:=a.foldl (λ n x=>b.foldl (Eu x) n) 0
theorem alW{α β:Type} c (a:α) (u v:β):(bif c then(a,u)else(a,v)).1=a:=by cases c<;>rfl
theorem H6 b (x:au) (hb:b.length<=1000) (hn:2000<=n) (m u v:Int):∃o,iter (pJ n b x) n (m,0,u,v)=some o/\o.1=b.foldl (Eu x) m:=by
 refine adi (λ i (w:Int×Int×Int×Int)=>w.2.1=i/\w.1=(b.take i).foldl (Eu x) m) b.length (λ (o:Int×Int×Int)=>o.1=b.foldl (Eu x) m) (λ i w hi hR=>?_) (λ w hR=>?_) n (by omega) _ ⟨rfl,rfl⟩;obtain⟨w1,w2,w3,w4⟩:=w;obtain⟨h1,h2⟩:=hR;simp at h1 h2;subst h1;have e:(b.take (i+1)).foldl (Eu x) m=Eu x w1 b[i]:=by rw[jr hi,List.foldl_append,<- h2];rfl
 simp only[pJ,cu hi,aj,bf hi,ai,tO];have e0:Eu x w1 b[i]=bif cI x&&(cI b[i]&&cI (iO x b[i]))then i64.wrap (w1+yL (iO x b[i]))else w1:=rfl;rw[e0]at e;cases hc:cI x&&(cI b[i]&&cI (iO x b[i]))with
 |false=>
  rw[hc]at e;simp only[ax,Bool.not_false,aj,ai];exact⟨_,rfl,bB (by omega),e.symm⟩
 |true=>
  rw[hc]at e;have hcc:cI (iO x b[i])=true:=by revert hc;generalize cI (iO x b[i])=c;cases c;cases cI x<;>cases cI b[i]<;>simp;simp
  simp only[aj,Bool.not_true,ax,Ct hcc,ai,kG];rw[show ∀u v:Int,sub [u,v] 0 2=[u,v]from λ_ _=>rfl,Vm _ _ (by omega)];simp only[ai,OU];simp only[show ∀u v:Int,be [u,v].length 2=true from λ_ _=>rfl,aj,ai];refine⟨_,rfl,aQ i,?_⟩;rw[e];exact alW _ _ _ _
 obtain⟨w1,w2,w3,w4⟩:=w;obtain⟨h1,h2⟩:=hR;simp only at h1 h2;subst h1;simp only[pJ,nT,ax];exact⟨_,rfl,by rw[h2,List.take_length]⟩
theorem OZ(a b:List au)(ha:a.length<=1000)(hb:b.length<=1000)(hn:2000<=n):∃q,vg n a b=some (xE a b,q):=by
 unfold vg;obtain⟨o,h1,h2⟩:=adi (step:=pK n a b) (λ i (w:Int×Int×Int×Int)=>w.2.1=i/\w.1=(a.take i).foldl (λ n x=>b.foldl (Eu x) n) 0) a.length (λ (o:Int×Int×Int)=>o.1=xE a b) (λ i w hi hR=>by obtain⟨w1,w2,w3,w4⟩:=w;obtain⟨h1,h2⟩:=hR;simp at h1 h2;subst h1;have⟨o,g1,g2⟩:=H6 (n:=n) b a[i] hb hn w1 w3 w4;obtain⟨o1,o2,o3⟩:=o;simp only[pK,cu hi,aj,bf hi,ai,g1];refine⟨_,rfl,bB (by omega),?_⟩;simp at g2;rw[jr hi,List.foldl_append,<- h2,g2];rfl) (λ w hR=>by obtain⟨w1,w2,w3,w4⟩:=w;obtain⟨h1,h2⟩:=hR;simp only at h1 h2;subst h1;simp only[pK,nT,ax];exact⟨_,rfl,by rw[h2,List.take_length];rfl⟩) n (by omega) (0,0,1048576,0) ⟨rfl,rfl⟩;obtain⟨o1,o2,o3⟩:=o;simp at h2;subst h2;exact⟨_,by rw[h1];rfl⟩
def qL(zs:List dh)(area:List au):List Int:=bif cm area then zs.map λz=>xE area (qV z)else []
theorem O1(p:bW) a (hz:p.zones.length<=100) (ha:a.length<=900) (hn:2000<=n):vk n p a=some (qL p.zones a):=by
 unfold vk qL;rw[iM (by omega) (by omega) (by omega)];simp;cases cm a with
 |false=>rfl
 |true=>
  have:=gm (l:=p.zones) (step:=pM n p a) (λ i s=>(i,s)) (λ z s=>s++[xE a (qV z)]) (λ s=>s) (λ i s=>s.length<=i)
   (λ i hi s hs=>?_) (λ s hs=>by simp[pM]) n (by omega) [] (aB _)
  rw[k8]at this;simp only[Bool.not_true,ax,length_nil,aI,aj,this,ai,fF];congr 1;have gen:∀(ys:List dh) s,ys.foldl (λ s z=>s++[xE a (qV z)]) s=s++ys.map λz=>xE a (qV z):=by
   intro ys
   induction ys with
   |nil=>intro s;simp
   |cons y ys ih=>intro s;rw[foldl_cons,ih];simp
  exact gen p.zones [];have cl:=afB p.zones[i];obtain⟨q,hq⟩:=OZ (n:=n) a (qV p.zones[i]) (by omega) (by omega) hn;have ap:bQ s.length s.length (sub ([xE a (qV p.zones[i])]:List Int) 0 1).length 1 8=true:=dP (n:=1) (by omega) (by simp[maxLen];omega);simp only[pM,cu hi,aj,bf hi,ai,Ri _ hn,fF,aI,hq,ap,eu];refine⟨?_,by simp;omega⟩;rw[bB (by omega)];rfl
theorem QG zs a:(qL zs a).length<=zs.length:=by unfold qL;cases cm a<;>simp
def tQ(zs:List dh)(l:List Int)(m:Nat):Int:=(List.range m).foldl (λ b i=>if (!((zs.getD i ⟨⟨#[]⟩,false,[]⟩).overlay)&&(decide (l.getD i 0>0)&&(decide (b<0) || decide (l.getD i 0>l.getD b.toNat 0))))=true then i else b) (-1)
def vD(zs:List dh)(l:List Int)(i:Nat):Bool:=decide (i=tQ zs l l.length) || ((zs.getD i ⟨⟨#[]⟩,false,[]⟩).overlay&&decide (l.getD i 0>0))
def vf(zs:List dh)(area:List au):List ByteArray:=((List.range (qL zs area).length).filter (vD zs (qL zs area))).map λi=>(zs.getD i ⟨⟨#[]⟩,false,[]⟩).name
theorem QH zs l:∀m,tQ zs l m=-1\/∃k:Nat,k<m/\tQ zs l m=k
 | 0=>.inl rfl
 |m+1=>by have ih:=QH zs l m;unfold tQ;rw[List.range_succ,List.foldl_append];simp only[foldl_cons,List.foldl_nil];split;exact .inr ⟨m,by omega,rfl⟩;rcases ih with h|⟨k,h1,h2⟩;exact .inl h;exact .inr ⟨k,by omega,h2⟩
theorem H7{α:Type}{l:List α}{i:Nat}(d:α)(h:i<l.length):l.getD i d=l[i]:=by simp[h]
theorem O3(p:bW) l (hl:l.length<=p.zones.length) (hz:p.zones.length<=100) (hn:2000<=n):iter (pO p l) n ((-1),0)=some (tQ p.zones l l.length):=by
 have main:=mF (step:=pO p l) (λ i=>(tQ p.zones l i,(i:Nat))) l.length (tQ p.zones l l.length) (λ i hi=>?_) (by simp[pO]) n (by omega);exact main;have hz':i<p.zones.length:=by omega
 have e:tQ p.zones l (i+1)=if (!(p.zones[i]).overlay&&(decide (l[i]>0)&&(decide (tQ p.zones l i<0) || decide (l[i]>l.getD (tQ p.zones l i).toNat 0))))=true then(i:Int)else tQ p.zones l i:=by
  conv=>lhs;unfold tQ
  rw[List.range_succ,List.foldl_append];simp only[foldl_cons,List.foldl_nil,H7 _ hz',H7 _ hi];rfl
 rw[e];rcases QH p.zones l i with h|⟨k,h1,h2⟩;rw[h];have d:decide (-1<0)=true:=rfl;simp only[pO,cu hi,aj,bE hi,bJ hi,ai,bf hz',d,OU,Bool.true_or,Bool.and_true,aQ i];cases (p.zones[i]).overlay<;>cases decide (l[i]>0)<;>rfl;rw[h2];have d:decide ((k:Nat)<0)=false:=by simp
 have hk:k<l.length:=by omega
 simp only[pO,cu hi,aj,bE hi,bJ hi,ai,bf hz',d,OU,Bool.false_or,ax,bE hk,bJ hk,Int.toNat_natCast,H7 _ hk,aQ i];cases (p.zones[i]).overlay<;>cases decide (l[i]>0)<;>cases decide (l[i]>l[k])<;>rfl
theorem aaV(p:bW) a (hz:p.zones.length<=100) (ha:a.length<=900) (hn:2000<=n):Ck n p a=some (vf p.zones a):=by
 unfold Ck;have sl:=QG p.zones a;rw[O1 p a hz ha hn];simp;rw[O3 p _ sl hz hn];simp;unfold vf;generalize hL:qL p.zones a=l at*
 have:=gm (l:=List.range l.length) (step:=wY p l (tQ p.zones l l.length)) (λ i s=>(i,s)) (λ i s=>bif vD p.zones l i then s++[(p.zones.getD i ⟨⟨#[]⟩,false,[]⟩).name]else s) (λ s=>s) (λ i s=>s.length<=i)
  (λ i hi s hs=>?_) (λ s hs=>by rw[List.length_range];simp[wY]) n (by rw[List.length_range];omega) [] (aB _)
 rw[k8]at this;simp[this];congr 1;have gen:∀(ys:List Nat) s,ys.foldl (λ s i=>bif vD p.zones l i then s++[(p.zones.getD i ⟨⟨#[]⟩,false,[]⟩).name]else s) s=s++(ys.filter (vD p.zones l)).map λi=>(p.zones.getD i ⟨⟨#[]⟩,false,[]⟩).name:=by
  intro ys
  induction ys with
  |nil=>intro s;simp
  |cons y ys ih=>
   intro s;rw[foldl_cons,ih,List.filter_cons];cases vD p.zones l y<;>simp
 exact gen (List.range l.length) [];rw[List.length_range]at hi;have hz':i<p.zones.length:=by omega
 rw[List.getElem_range];have ap:bQ s.length s.length (sub ([(p.zones[i]).name]:List ByteArray) 0 1).length 1 16=true:=dP (n:=1) (by omega) (by simp[maxLen];omega);have hb:((i:Nat)==tQ p.zones l l.length)=decide ((i:Nat)=tQ p.zones l l.length):=by rw[dw];simp
 simp only[wY,cu hi,aj,bE hi,bJ hi,ai,bf hz',hb,OU,ap,eu,aI,vD,H7 _ hz',H7 _ hi,aQ i];cases decide ((i:Nat)=tQ p.zones l l.length)<;>cases (p.zones[i]).overlay<;>cases decide (l[i]>0)<;>refine⟨rfl,?_⟩<;>simp<;>omega
theorem alX zs a:(vf zs a).length<=zs.length:=by unfold vf;rw[length_map];have h1:=length_filter_le (vD zs (qL zs a)) (List.range (qL zs a).length);rw[List.length_range]at h1;have:=QG zs a;omega
def ff(a b:ByteArray):Bool:=ByteArray.toList a==ByteArray.toList b
theorem uE{l:List ByteArray}{a:ByteArray}(hl:l.length<1099511627776)(hn:l.length<n):fJ n l a=some (l.any (ff a)):=by
 unfold fJ;have e:qE n l a=XN n (λ x=>ByteArray.toList a==ByteArray.toList x) l:=by kernel_rfl
 rw[e,Qq hl hn,ai,wR];rfl
theorem pW{l:List ByteArray}{φ:(ByteArray×Unit)->Option Bool}(p:ByteArray->Bool)(h:∀x∈l,φ (x,())=some (p x))(hl:l.length<1099511627776)(hn:l.length<n):fU n l φ=some (l.any p):=by
 unfold fU;have e:p8 n l φ=vO n l φ:=by kernel_rfl
 rw[e,iG p h hl hn,ai,wR]
def SC(r:aL)(zs:List ByteArray):Bool:=(decide (r.zones=[]) || r.zones.any λz=>zs.any (ff z))&&!(r.except.any λz=>zs.any (ff z))
theorem O4(r:aL) zs (h1:r.zones.length<=100) (h2:r.except.length<=100) (h3:zs.length<=100) (hn:2000<=n):qj n r zs=some (SC r zs):=by
 have hf:∀x:ByteArray,j5 n x zs=some (zs.any (ff x)):=λx=>by unfold j5;rw[uE (by omega) (by omega)];rfl
 unfold qj SC;rw[pW (λ z=>zs.any (ff z)) (λ x _=>hf x) (by omega) (by omega),pW (λ z=>zs.any (ff z)) (λ x _=>hf x) (by omega) (by omega)];simp;have e:((r.zones.length:Int)==0)=decide (r.zones=[]):=by rw[dw,beq_iff_eq,bM];constructor;intro h;exact List.length_eq_zero_iff.1 (by omega);intro h;rw[h];rfl
 rw[e];cases decide (r.zones=[])<;>cases (r.zones.any λz=>zs.any (ff z))<;>cases (r.except.any λz=>zs.any (ff z))<;>rfl
def qw(zs:List ByteArray)(day:Int)(r:aL):Bool:=decide (r.from_<=day)&&((r.j7==0 || decide (day<r.j7))&&SC r zs)
def O5(rules:List aL)(zs:List ByteArray)(day:Int):List Nat:=(List.range rules.length).filter λi=>(rules[i]?).any (qw zs day)
abbrev KG(r:aL):Prop:=r.zones.length<=100/\r.except.length<=100
theorem Rj(p:bW) zs day (hr:∀r∈p.rules,KG r) (hl:p.rules.length<=100) (h3:zs.length<=100) (hn:2000<=n):sJ n p zs day=some ((O5 p.rules zs day).map λ(i:Nat)=>(i:Int)):=by
 unfold sJ O5
 have:=gm (l:=List.range p.rules.length) (step:=qF n p zs day) (λ i s=>(i,s)) (λ i s=>bif(p.rules[i]?).any (qw zs day)then s++[(i:Int)]else s) (λ s=>s) (λ i s=>s.length<=i)
  (λ i hi s hs=>?_) (λ s hs=>by rw[List.length_range];simp[qF]) n (by rw[List.length_range];omega) [] (aB _)
 rw[k8]at this;simp[this];congr 1;have gen:∀(ys:List Nat) s,ys.foldl (λ s (i:Nat)=>bif(p.rules[i]?).any (qw zs day)then s++[(i:Int)]else s) s=s++(ys.filter λi=>(p.rules[i]?).any (qw zs day)).map λ(i:Nat)=>(i:Int):=by
  intro ys
  induction ys with
  |nil=>intro s;simp
  |cons y ys ih=>
   intro s;rw[foldl_cons,ih,List.filter_cons];cases (p.rules[y]?).any (qw zs day)<;>simp
 exact gen (List.range p.rules.length) [];rw[List.length_range]at hi;rw[List.getElem_range];obtain⟨o1,o2⟩:=hr _ (getElem_mem hi);have ap:bQ s.length s.length (sub ([(i:Nat)]:List Int) 0 1).length 1 8=true:=dP (n:=1) (by omega) (by simp[maxLen];omega);have eg:(p.rules[i]?).any (qw zs day)=qw zs day p.rules[i]:=by rw[dD hi];rfl
 rw[eg];simp only[qF,cu hi,aj,bf hi,ai,O4 _ zs o1 o2 h3 hn,OU,ap,eu,aI,qw,aQ i];cases decide ((p.rules[i]).from_<=day)<;>cases (p.rules[i]).j7==0<;>cases decide (day<(p.rules[i]).j7)<;>cases SC p.rules[i] zs<;>refine⟨rfl,?_⟩<;>simp<;>omega
def VD(p:dI):Bool:=decide (0<=p.side/\p.side<=3)&&(decide (0<=p.base/\p.base<=4096)&&(decide (0<=p.num/\p.num<=4096)&&decide (1<=p.den/\p.den<=4096)))
theorem aku(p:dI):VD p=true↔(0<=p.side/\p.side<=3)/\(0<=p.base/\p.base<=4096)/\(0<=p.num/\p.num<=4096)/\(1<=p.den/\p.den<=4096):=by simp[VD]
theorem Rk(a b c:Int):nJ a b c=some (decide (b<=a/\a<=c)):=by
 unfold nJ;by_cases h1:b<=a;have d:decide (b<=a)=true:=by simpa using h1
 rw[d,aj];congr 1;rw[dw];simp[h1];have d:decide (b<=a)=false:=by simpa using h1
 rw[d,ax];congr 1;rw[dw];simp[h1]
theorem VE(p:dI):zT p=some (VD p):=by unfold zT VD;simp only[Rk,ai,OU];generalize decide (0<=p.side/\p.side<=3)=a;generalize decide (0<=p.base/\p.base<=4096)=b;generalize decide (0<=p.num/\p.num<=4096)=c;cases a<;>cases b<;>cases c<;>rfl
theorem AQ{l:List dI}{φ:(dI×Unit)->Option Bool}(p:dI->Bool)(h:∀x∈l,φ (x,())=some (p x))(hl:l.length<1099511627776)(hn:l.length<n):kP n l φ=some (l.any p):=by
 unfold kP;have e:qQ n l φ=vO n l φ:=by kernel_rfl
 rw[e,iG p h hl hn,ai,wR]
def Af(b:au)(l:List dI):Bool:=cI b&&!(l.any λp=>!VD p)
theorem VF(b:au) l (hl:l.length<=1000) (hn:2000<=n):zU n b l=some (Af b l):=by unfold zU Af;rw[jc,AQ (λ p=>!VD p) (λ p _=>by show sK p=_;unfold sK;rw[VE];rfl) (by omega) (by omega)];simp only[ai,OU];cases cI b<;>rfl
theorem afC{a n:Int}(hn:0<n):(if Int.tmod a n<0 then Int.tdiv a n-1 else Int.tdiv a n)=a/n:=by
 have h1:=Int.mul_ediv_add_emod a n;have h2:=Int.emod_nonneg a (by omega:n≠0);have h3:=Int.emod_lt_of_pos a hn;rcases Int.le_total 0 a with h|h;have e1:Int.tmod a n=a%n:=Int.tmod_eq_emod_of_nonneg h;have e2:Int.tdiv a n=a/n:=Int.tdiv_eq_ediv_of_nonneg h;rw[e1,e2,bn (by omega)];obtain⟨b,rfl⟩:∃b,a=-b:=⟨-a,by omega⟩;have hb:0<=b:=by omega
 have e1:Int.tmod (-b) n=-(b%n):=by rw[Int.neg_tmod,Int.tmod_eq_emod_of_nonneg hb]
 have e2:Int.tdiv (-b) n=-(b/n):=by rw[Int.neg_tdiv,Int.tdiv_eq_ediv_of_nonneg hb]
 have g1:=Int.mul_ediv_add_emod b n;have g2:=Int.emod_nonneg b (by omega:n≠0);have g3:=Int.emod_lt_of_pos b hn;rw[e1,e2];by_cases hm:b%n=0;rw[bn (by omega)];have:(-b)/n=-(b/n):=by refine(Int.ediv_eq_iff_of_pos hn).2 ?_;constructor;rw[Int.neg_mul,Int.mul_comm (b/n)];omega;rw[Int.neg_mul,Int.mul_comm (b/n)];omega
 omega;rw[bA (by omega)];have:(-b)/n=-(b/n)-1:=by refine(Int.ediv_eq_iff_of_pos hn).2 ?_;constructor;rw[Int.sub_mul,Int.neg_mul,Int.mul_comm (b/n)];omega;rw[Int.sub_mul,Int.neg_mul,Int.mul_comm (b/n)];omega
 omega
theorem MV{a n:Int}(hn:0<n)(ha: -4611686018427387904<=a/\a<=4611686018427387904):sM a n=some (a/n):=by
 have nz:(n !=0)=true:=by simp;omega
 have hb: -4611686018427387904<=a/n/\a/n<=4611686018427387904:=by
  constructor;rw[Int.le_ediv_iff_mul_le hn];have: -4611686018427387904*n<=-4611686018427387904:=by omega
  omega;rcases Int.le_total 0 a with h|h;have:=Int.ediv_le_self n h;omega;have:a/n<=0:=by have:=(Int.ediv_lt_iff_lt_mul (a:=a) (b:=1) hn).2 (by omega);omega
  omega
 have hf:=afC (a:=a) hn;have ht: -4611686018427387904<=Int.tdiv a n/\Int.tdiv a n<=4611686018427387905:=by split at hf<;>omega
 unfold sM;simp[nz];rw[bZ (x:=Int.tdiv a n),bZ (x:=Int.tdiv a n-1),<- hf];by_cases h:Int.tmod a n<0;have d:decide (Int.tmod a n<0)=true:=by simpa using h
 rw[d,bA h];rfl;have d:decide (Int.tmod a n<0)=false:=by simpa using h
 rw[d,bn h];rfl
def J6(b:au)(side x y:Int):Int:=if side=0 then x-b.x0 else if side=1 then b.x1-1-x else if side=2 then y-b.y0 else b.y1-1-y
def S6(b:au)(p:dI)(x y:Int):Int:=p.base+p.num*J6 b p.side x y/p.den
def O6(b:au)(l:List dI)(x y:Int):Int:=l.foldl (λ h p=>min h (S6 b p x y)) 4096
abbrev InG(x y:Int):Prop:=(0<=x/\x<1048576)/\(0<=y/\y<1048576)
theorem adj{b:au}(hb:cI b=true){x y:Int}(h:InG x y) side: -1048576<=J6 b side x y/\J6 b side x y<=1048576:=by simp at hb;obtain⟨h1,h2⟩:=h;unfold J6;split;omega;split;omega;split<;>omega
theorem aip{a d:Int}(ha:0<=a/\a<=4096)(hd: -1048576<=d/\d<=1048576): -4294967296<=a*d/\a*d<=4294967296:=by have h1:a*d<=a*1048576:=Int.mul_le_mul_of_nonneg_left hd.2 ha.1;have h2:a*(-1048576)<=a*d:=Int.mul_le_mul_of_nonneg_left hd.1 ha.1;omega
theorem aiq{a n:Int}(hn:0<n)(ha: -4294967296<=a/\a<=4294967296): -4294967296<=a/n/\a/n<=4294967296:=by constructor;rw[Int.le_ediv_iff_mul_le hn];omega;rcases Int.le_total 0 a with h|h;have:=Int.ediv_le_self n h;omega;have:=(Int.ediv_lt_iff_lt_mul (a:=a) (b:=1) hn).2 (by omega);omega
theorem aaW{b:au}{l:List dI}{x y:Int}(hb:cI b=true)(hp:∀p∈l,VD p=true)(h:InG x y)(hl:l.length<=1000)(hn:2000<=n):Ja n b l x y=some (O6 b l x y):=by
 unfold Ja wI;have hr:=hb;simp at hr;obtain⟨h1,h2⟩:=h;rw[bZ (x:=x-b.x0),bZ (x:=b.x1-1),bZ (x:=b.x1-1-x),bZ (x:=y-b.y0),bZ (x:=b.y1-1),bZ (x:=b.y1-1-y)];simp;have:=kW (l:=l) (step:=xh b l x y ⟨x-b.x0,b.x1-1-x,y-b.y0,b.y1-1-y⟩) (λ i s=>(s,(i:Nat))) (λ p s=>min s (S6 b p x y)) (λ s=>s) (λ i hi s=>?_) (λ s=>by simp[xh]) n (by omega) 4096;rw[k8]at this;rw[this];rfl;obtain⟨s1,s2,s3,s4⟩:=(aku _).1 (hp _ (getElem_mem hi));have ib:cP (l[i]).side 4=true:=by simp[cP];omega
 have g:cd ([x-b.x0,b.x1-1-x,y-b.y0,b.y1-1-y]:List Int) (l[i]).side=some (J6 b (l[i]).side x y):=by
  have hs:(l[i]).side=0\/(l[i]).side=1\/(l[i]).side=2\/(l[i]).side=3:=by omega
  rcases hs with e|e|e|e<;>rw[e]<;>simp[cd,J6]
 have db:=adj hb ⟨h1,h2⟩ (l[i]).side;have mb:=aip s3 db;have dv:=aiq (n:=(l[i]).den) (by omega) mb;simp only[xh,cu hi,aj,bf hi,ai,ib,g];rw[bZ (x:=(l[i]).num*J6 b (l[i]).side x y),MV (by omega) (by omega)];simp only[ai];rw[bZ (x:=(l[i]).base+_),bB (by omega)];rfl
theorem adk(b:au) l:Af b l=true↔cI b=true/\∀p∈l,VD p=true:=by unfold Af;rw[bq,Bool.not_eq_true',List.any_eq_false];simp
theorem wC(r:au)(x y:Int):wz r x y=true↔(r.x0<=x/\x<r.x1)/\(r.y0<=y/\y<r.y1):=by simp[wz]
def Cl(x:gD):Bool:=decide (x.z0<0) || (decide (x.z0>=x.z1) || (decide (x.z1>4096) || (decide (x.area=[]) || !cm x.area)))
def we(p:Option gD×gD):Bool:=Cl p.2 || p.1.any λq=>decide (q.z1>p.2.z0) || (q.z1==p.2.z0&&decide (q.area=p.2.area))
def yM(s:List gD):List (Option gD×gD):=(none::s.map some).zip s
def uU(s:List gD):Bool:=decide (s.length<=80)&&!((yM s).any we)
theorem oW s:(yM s).length=s.length:=by simp[yM]
theorem Ew{s:List gD}{i:Nat}(h:i<(yM s).length):(yM s)[i]=(if h0:i=0 then none else some (s[i-1]'(by rw[oW]at h;omega)),s[i]'(by rw[oW]at h;exact h)):=by
 simp[yM];cases i with
 |zero|succ i=>simp
theorem QI{s:List gD}(ha:∀x∈s,x.area.length<=900)(hn:1000<=n):G9 n s=some (uU s):=by
 unfold G9 uU;by_cases h80:s.length<=80;have d:decide ((s.length:Int)>80)=false:=by simp;omega
 have d2:decide (s.length<=80)=true:=by simpa using h80
 have z:∀l:List au,(((l.length:Int))==0)=decide (l=[]):=λl=>by cases l<;>simp<;>omega
 have:=qZ (l:=yM s) (step:=zV n s) (λ i=>(i:Nat)) we () (λ _=>false) (λ i hi=>?_) ?_ n (by rw[oW];omega);rw[k8]at this;rw[d,d2,this,<- OX];cases oq we (yM s)<;>rfl;rw[Ew];rw[oW]at hi;have hi':decide ((i:Int)<s.length)=true:=by simpa using hi
 have h1:=ha _ (getElem_mem hi);simp only[zV,hi',aj,bf hi,ai,z,iM (n:=n) (l:=s[i].area) (by omega) (by omega) hn,we];rw[bB (by omega)];have b:((bif decide (s[i].z0<0)then some true else bif decide (s[i].z0>=s[i].z1)then some true else bif decide (s[i].z1>4096)then some true else bif decide (s[i].area=[])then some true else some (!cm s[i].area)):Option Bool)=some (Cl s[i]):=by unfold Cl;cases decide (s[i].z0<0)<;>cases decide (s[i].z0>=s[i].z1)<;>cases decide (s[i].z1>4096)<;>cases decide (s[i].area=[])<;>rfl
 rw[b];simp;cases Cl s[i]with
 |true=>simp
 |false=>
  by_cases h0:i=0;subst h0;have:(((0:Nat))==0)=true:=rfl;simp;have e0:((i:Int)==0)=false:=by simp;omega
  have w:i64.wrap (i-1)=(i-1:Nat):=mM (by omega) (by omega);have h2:=ha _ (getElem_mem (show i-1<s.length by omega));simp[e0,w,bf (show i-1<s.length by omega),afw (n:=n) (a:=s[i-1].area) (b:=s[i].area) (by omega) (by omega),h0];cases decide (s[i-1].z1>s[i].z0)with
  |true=>simp
  |false=>
   cases s[i-1].z1==s[i].z0 with
   |false=>simp
   |true=>cases decide (s[i-1].area=s[i].area)<;>simp
 rw[oW];simp[zV];have d:decide ((s.length:Int)>80)=true:=by simp;omega
 have d2:decide (s.length<=80)=false:=by simpa using h80
 rw[d,d2];rfl
structure akv(x:gD):Prop where
 lo:0<=x.z0
 lt:x.z0<x.z1
 hi:x.z1<=4096
 ne:x.area≠[]
 rt:cm x.area=true
def anZ(s:List gD):Prop:=∀i (h:i+1<s.length),s[i].z1<=s[i+1].z0/\¬(s[i].z1=s[i+1].z0/\s[i].area=s[i+1].area)
theorem adl(x:gD):Cl x=false↔akv x:=by unfold Cl;simp;constructor;rintro⟨h1,h2,h3,h4,h5⟩;exact⟨by omega,by omega,by omega,h4,h5⟩;rintro⟨h1,h2,h3,h4,h5⟩;exact⟨by omega,by omega,by omega,h4,h5⟩
theorem VG s:uU s=true↔s.length<=80/\(∀ x∈s,akv x)/\anZ s:=by
 unfold uU;rw[bq,bM,Bool.not_eq_true',List.any_eq_false];refine and_congr_right λ_=>?_;constructor;intro h;have key:∀i (hi:i<s.length),we ((yM s)[i]'(by rw[oW];exact hi))=false:=λi hi=>by have:=h _ (getElem_mem (show i<(yM s).length by rw[oW];exact hi));simpa using this
 refine⟨λ x hx=>?_,λi hi=>?_⟩;obtain⟨i,hi,rfl⟩:=mem_iff_getElem.1 hx;have:=key i hi;rw[Ew]at this;unfold we at this;rw[Bool.or_eq_false_iff]at this;exact(adl _).1 this.1;have:=key (i+1) hi;rw[Ew]at this;unfold we at this;rw[Bool.or_eq_false_iff]at this;have h2:=this.2;simp only[Nat.succ_ne_zero,dif_neg,not_false_eq_true,Option.any_some,Nat.add_sub_cancel,Bool.or_eq_false_iff,dU,Bool.and_eq_false_iff,beq_eq_false_iff_ne]at h2;refine⟨by omega,λ⟨e1,e2⟩=>?_⟩;rcases h2.2 with h3|h3;exact h3 e1;exact h3 e2;rintro⟨h1,h2⟩ p hp;obtain⟨i,hi,rfl⟩:=mem_iff_getElem.1 hp;rw[Ew];rw[oW]at hi;unfold we;have hb:=(adl _).2 (h1 _ (getElem_mem hi));by_cases h0:i=0;simp[h0]at hb ⊢;exact hb;obtain⟨j,rfl⟩:∃j,i=j+1:=⟨i-1,by omega⟩;have⟨n1,n2⟩:=h2 j hi;simp only[Nat.succ_ne_zero,dif_neg,not_false_eq_true,Option.any_some,Nat.add_sub_cancel];rw[hb];simp only[Bool.false_or,Bool.or_eq_true,bM,bq,beq_iff_eq];rintro (h|h);omega;exact n2 h
theorem rC{l:List gD}{φ:(gD×Unit)->Option Bool}(p:gD->Bool)(h:∀x∈l,φ (x,())=some (p x))(hl:l.length<1099511627776)(hn:l.length<n):jo n l φ=some (l.any p):=by
 unfold jo sN;have:=qZ (l:=l) (step:=lN l φ) (λ i=>(i:Nat)) p () (λ i=>(i:Nat)) (λ i hi=>?_) (by simp[lN]) n hn;rw[k8]at this;rw[this,<- OX];cases oq p l with
 |none=>rfl
 |some i=>simp<;>omega
 have hi':decide ((i:Int)<l.length)=true:=by simpa using hi
 simp only[lN,hi',aj,bf hi,ai,h _ (getElem_mem hi)];rw[bB (by omega)];cases p l[i]<;>rfl
def HM(s:List gD)(lot:Int)(e:cK):Bool:=e.lot==lot&&(cm e.area&&s.any λc=>decide (c.z1>e.top)&&J5 c.area e.area)
def QJ(l:List cK)(lot:Int)(s:List gD):Bool:=uU s&&!(l.any (HM s lot))
theorem XL{l:List cK}{lot:Int}{s:List gD}(hl:l.length<=900)(he:∀e∈l,e.area.length<=900)(ha:∀x∈s,x.area.length<=900)(hn:1000<=n):Ee n l lot s=some (QJ l lot s):=by
 unfold Ee QJ;rw[QI ha hn];simp;cases hr:uU s with
 |false=>rfl
 |true=>
 have l80:=((VG s).1 hr).1;have:=qZ (l:=l) (step:=vw n l lot s) (λ i=>(i:Nat)) (HM s lot) () (λ _=>false) (λ i hi=>?_) (by simp[vw]) n (by omega);rw[k8]at this;simp;rw[this,<- OX];cases oq (HM s lot) l<;>rfl;have hi':decide ((i:Int)<l.length)=true:=by simpa using hi
 have h1:=he _ (getElem_mem hi);have cf:=rC (n:=n) (l:=s) (φ:=λy:gD×Unit=>qo n y.1 l[i]) (λ c=>decide (c.z1>l[i].top)&&J5 c.area l[i].area) (λ c hc=>by have:=ha c hc;show qo n c l[i]=_;unfold qo;rw[afv (by omega) (by omega) (by omega) (by omega)];cases decide (c.z1>l[i].top)<;>rfl) (by omega) (by omega);simp only[vw,hi',aj,bf hi,ai,iM (n:=n) (l:=l[i].area) (by omega) (by omega) hn,cf];rw[bB (by omega)];unfold HM;cases h2:l[i].lot==lot with
 |false=>
  have:(l[i].lot !=lot)=true:=by simp[bne,h2]
  simp[this]
 |true=>
  have:(l[i].lot !=lot)=false:=by simp[bne,h2]
  simp[this];cases cm l[i].area with
  |false=>simp
  |true=>cases s.any λc=>decide (c.z1>l[i].top)&&J5 c.area l[i].area<;>simp
theorem adm(r:au):cI r=true↔(0<=r.x0/\r.x0<r.x1/\r.x1<=1048576)/\(0<=r.y0/\r.y0<r.y1/\r.y1<=1048576):=by simp;omega
theorem Jm{b:au}{l:List dI}(r:au) x (hb:cI b=true) (hp:∀p∈l,VD p=true) (hr:cI r=true) (hx:0<=x/\x<1048576) (hl:l.length<=1000) (hn:2000<=n) v:
 iter (nR n b l r x) n (v,0)=some (min (min v (O6 b l x r.y0)) (O6 b l x (r.y1-1))):=by
 have ho:=(adm r).1 hr;have w:i64.wrap (r.y1-1)=r.y1-1:=bZ (by omega) (by omega);have:=kW (l:=[r.y0,r.y1-1]) (step:=nR n b l r x) (λ i s=>(s,(i:Nat))) (λ y m=>min m (O6 b l x y)) (λ s=>s) (λ i hi s=>?_) (λ s=>by simp[nR]) n (by simp;omega) v;rw[k8]at this;exact this;have h2:i<2:=by simpa using hi
 have yb:0<=([r.y0,r.y1-1]:List Int)[i]/\([r.y0,r.y1-1]:List Int)[i] <1048576:=by rcases i with _|_|i;simp;omega;simp;omega;omega
 simp only[nR,cu h2,aj,bE h2,w,bJ hi,ai,aaW hb hp ⟨hx,yb⟩ hl hn,aQ i]
def Lk(b:au)(l:List dI)(v:Int)(r:au):Int:=min (min (min (min v (O6 b l r.x0 r.y0)) (O6 b l r.x0 (r.y1-1))) (O6 b l (r.x1-1) r.y0)) (O6 b l (r.x1-1) (r.y1-1))
theorem Jo{b:au}{l:List dI}(r:au)(hb:cI b=true)(hp:∀p∈l,VD p=true)(hr:cI r=true)(hl:l.length<=1000)(hn:2000<=n) v:
 iter (nS n b l r) n (v,0)=some (Lk b l v r):=by
 have ho:=(adm r).1 hr;have w:i64.wrap (r.x1-1)=r.x1-1:=bZ (by omega) (by omega);have:=kW (l:=[r.x0,r.x1-1]) (step:=nS n b l r) (λ i s=>(s,(i:Nat))) (λ x m=>min (min m (O6 b l x r.y0)) (O6 b l x (r.y1-1))) (λ s=>s) (λ i hi s=>?_) (λ s=>by simp[nS]) n (by simp;omega) v;rw[k8]at this;exact this;have h2:i<2:=by simpa using hi
 have xb:0<=([r.x0,r.x1-1]:List Int)[i]/\([r.x0,r.x1-1]:List Int)[i] <1048576:=by rcases i with _|_|i;simp;omega;simp;omega;omega
 simp only[nS,cu h2,aj,bE h2,w,bJ hi,ai,Jm r _ hb hp hr xb hl hn,aQ i]
def xy(b:au)(l:List dI)(a:List au):Int:=a.foldl (Lk b l) 4096
theorem Rl{b:au}{l:List dI}{a:List au}(hb:cI b=true)(hp:∀p∈l,VD p=true)(ha:∀r∈a,cI r=true)(hal:a.length<=1000)(hl:l.length<=1000)(hn:2000<=n):xk n b l a=some (xy b l a):=by unfold xk;have:=kW (l:=a) (step:=qH n b l a) (λ i s=>(s,(i:Nat))) (λ r m=>Lk b l m r) (λ s=>s) (λ i hi s=>?_) (λ s=>by simp[qH]) n (by omega) 4096;rw[k8]at this;rw[this];rfl;simp only[qH,cu hi,aj,bf hi,ai,Jo a[i] hb hp (ha _ (getElem_mem hi)) hl hn,aQ i]
def ApR(a b:au):Prop:=∀x y,wz a x y=true->wz b x y=true->False
def an0(l:List au):Prop:=l.Pairwise ApR/\∀r∈l,cI r=true
theorem afE l (x y:Int):iP l x y=true↔∃r∈l,wz r x y=true:=by simp[iP,wz]
theorem tT(r:au):cI r=true↔(0<=r.x0/\r.x0<r.x1/\r.x1<=1048576)/\(0<=r.y0/\r.y0<r.y1/\r.y1<=1048576):=by simp;omega
theorem afF{a:List au}(h:cm a=true):an0 a:=by have⟨Zs,hro,_⟩:=afx h;refine⟨?_,(ji h).1⟩;rw[<- hro];unfold lT;rw[List.pairwise_flatMap];refine⟨λ s hs=>?_,(Zl Zs.runs).imp λ{s t} hst=>?_⟩;unfold jZ;rw[List.pairwise_map];refine(Zs.col s hs).1.1.imp λ{p q} hpq x y h1 h2=>?_;rw[wC]at h1 h2;simp at h1 h2;omega;intro p hp q hq x y h1 h2;unfold jZ at hp hq;obtain⟨p',_,rfl⟩:=mem_map.1 hp;obtain⟨q',_,rfl⟩:=mem_map.1 hq;rw[wC]at h1 h2;simp at h1 h2;omega
theorem akx(a b:au)(x y:Int):wz (iO a b) x y=(wz a x y&&wz b x y):=by rw[dw,bq,wC,wC,wC];unfold iO;simp;omega
abbrev Cd(t:dO):Prop:=t.area.length<=900/\t.from_.length*8<=140737488355328
theorem afH{t:dO}(h:Cd t):Mj t=some t:=by unfold Mj;have h2:=h.2;rw[OJ (by omega),ai,show DY t.from_=some t.from_ from Qr (b:=8) (by omega) (by simp[maxLen];omega),ai];simp
theorem air{land:List dO}{id:Int}(h:∀t∈land,Cd t)(hl:land.length<1099511627776)(hn:land.length<n):Mk n land id=some (fq land id):=by
 unfold Mk;have:=qZ (l:=land) (step:=DZ land id) (λ i=>i) (λ t=>t.id==id) () (λ i=>(land.getD i T0,true)) (λ i hi=>?_) ?_ n hn;rw[k8]at this;rw[this];unfold fq;rcases VA (λ t:dO=>t.id==id) land with ⟨i,hi,h1,h2⟩|⟨h1,h2⟩;rw[h1,h2];simp[hi];rw[h1,h2];rfl;simp only[DZ,cu hi,aj,bf hi,ai,afH (h _ (getElem_mem hi))];cases land[i].id==id with
 |true=>simp[hi]
 |false=>simp only[ax];rw[bB (by omega)]
 simp[DZ]
theorem Cu{land:List dO}(h:∀t∈land,Cd t) id:Cd (fq land id).1:=by unfold fq;split;rename_i t ht;exact h t (List.mem_of_find?_eq_some ht);simp[Cd,T0]
structure aoe(t:dm):Prop where
 rules:t.bj.length<=20
 O2:∀r∈t.bj,KG r
 zones:t.bk.length<=20
 land:t.land.length<=20
 lots:∀l∈t.land,Cd l
 b8:t.b8.length<=5
 aof:∀e∈t.b8,e.area.length<=10
theorem QK{α:Type}(p:α->Bool):∀l:List α,((List.range l.length).filter λi=>(l[i]?).any p).filterMap (λ i=>l[i]?)=l.filter p
 |[]=>rfl
 |a::l=>by
  have ih:=QK p l;rw[fG,List.range_succ_eq_map,List.filter_cons,List.filter_cons];have e:(List.filter (λ i=>((a::l)[i]?).any p) (List.map Nat.succ (List.range l.length))).filterMap (λ i=>(a::l)[i]?)=l.filter p:=by rw[List.filter_map,List.filterMap_map];exact ih
  cases hp:p a with
  |true|false=>simp[hp];simpa using e
def MW(a r:au):au:=⟨min a.x0 r.x0,min a.y0 r.y0,max a.x1 r.x1,max a.y1 r.y1⟩
def xG:List au->au
 |[]=>⟨0,0,0,0⟩
 |r::l=>l.foldl MW r
def tV(a:List au):au×Bool:=bif decide (a≠[])&&cm a then(xG a,true)else(⟨0,0,0,0⟩,false)
theorem ado{a:List au}(ha:a≠[])(hv:∀r∈a,cI r=true)(hl:a.length<=900)(hn:2000<=n):MH n a=some (xG a,true):=by
 unfold MH;have:=kW (l:=a.zip (List.range a.length)) (step:=zS a) (λ i (s:Bool×Int×Int×Int×Int)=>(s.1,(i:Nat),s.2)) (λ p s=>bif !s.1 then(true,p.1.x0,p.1.y0,p.1.x1,p.1.y1)else(s.1,min s.2.1 p.1.x0,min s.2.2.1 p.1.y0,max s.2.2.2.1 p.1.x1,max s.2.2.2.2 p.1.y1)) (λ s=>s) (λ i hi s=>?_) (λ s=>?_) n (by simp;omega) (false,0,0,0,0);rw[k8]at this;simp only at this;rw[this];cases a with
 |nil=>exact absurd rfl ha
 |cons r l=>
  have gen:∀(l:List au)(k:List Nat)(s:au),l.length<=k.length->(l.zip k).foldl (λ (s:Bool×Int×Int×Int×Int) p=>bif !s.1 then(true,p.1.x0,p.1.y0,p.1.x1,p.1.y1)else(s.1,min s.2.1 p.1.x0,min s.2.2.1 p.1.y0,max s.2.2.2.1 p.1.x1,max s.2.2.2.2 p.1.y1)) (true,s.x0,s.y0,s.x1,s.y1)=(true,(l.foldl MW s).x0,(l.foldl MW s).y0,(l.foldl MW s).x1,(l.foldl MW s).y1):=by
   intro l
   induction l with
   |nil=>intro k s _;rfl
   |cons r l ih=>
    intro k s hk;cases k with
    |nil=>simp at hk
    |cons j k=>
     rw[List.zip_cons_cons,foldl_cons,foldl_cons];exact ih k (MW s r) (by simpa using hk)
  rw[fG,List.range_succ_eq_map,List.zip_cons_cons,foldl_cons];simp only[Bool.not_false,aj];rw[gen l _ r (by simp)];rfl
 have hi':i<a.length:=by simpa using hi
 obtain⟨s1,s2,s3,s4,s5⟩:=s;have ok:=hv _ (getElem_mem hi');simp only[zS,cu hi',aj,bf hi',ai,jc,ok,Bool.not_true,ax,OU,List.getElem_zip,aQ i];obtain⟨s1,s2,s3,s4,s5⟩:=s;have:(a.zip (List.range a.length)).length=a.length:=by simp
 simp[zS]
theorem aaY a (hl:a.length<=900) (hn:2000<=n):I9 n a=some (tV a):=by
 unfold I9 tV;cases a with
 |nil=>rfl
 |cons r l=>
  have e:((((r::l).length:Nat):Int)==0)=false:=by simp;omega
  have e2:decide (r::l≠[])=true:=by simp
  rw[iM (by omega) (by omega) (by omega),e,e2];simp;cases hr:cm (r::l)with
  |false=>rfl
  |true=>
   simp;rw[ado (by simp) (ji hr).1 hl hn];rfl
theorem Cv{V O:Type}{step:V->Option (V⊕O)}(f:Nat->V){s:V}(N:Nat)(o:O)(h0:s=f 0)
 (h1:∀i,i<N->step (f i)=some (.inl (f (i+1)))) (h2:step (f N)=some (.inr o)) (n:Nat) (hn:N<n):iter step n s=some o:=by rw[h0];exact mF f N o h1 h2 n hn
def tb(f:Nat->Nat->Bool):List Bool:=(List.range 144).map λi=>f (i/12) (i%12)
def upd(f:Nat->Nat->Bool)(a b:Nat)(v:Bool):Nat->Nat->Bool:=λx y=>if x=a/\y=b then v else f x y
inductive Tc(e:Nat->Nat->Bool):Nat->Nat->Prop
 |one {a b:Nat}:a<12->b<12->e a b=true->Tc e a b
 |trans {a b c:Nat}:Tc e a b->Tc e b c->Tc e a c
theorem Tc.lt{e:Nat->Nat->Bool}{a b:Nat}(h:Tc e a b):a<12/\b<12:=by
 induction h with
 |one h1 h2 _=>exact⟨h1,h2⟩
 |trans _ _ i1 i2=>exact⟨i1.1,i2.2⟩
def bH(v:aA):au:=au.mk v.aE v.bp v.az v.bo
def okV(v:aA):Bool:=cI (bH v)&&(decide (0<=v.c9)&&(decide (v.c9<v.cR)&&(decide (v.cR<=4096)&&((decide (v.use=0) || decide (v.units=0))&&(decide (0<=v.use)&&(decide (v.use<6)&&(decide (0<=v.units)&&decide (v.units<=1048576))))))))
theorem kI(v:aA):gq v=some (okV v):=by
 unfold gq okV;rw[jc];have e1:decide (v.c9<0)=!decide (0<=v.c9):=by rw[<- decide_not,decide_eq_decide];omega
 have e2:decide (v.c9>=v.cR)=!decide (v.c9<v.cR):=by rw[<- decide_not,decide_eq_decide];omega
 have e3:decide (v.cR>4096)=!decide (v.cR<=4096):=by rw[<- decide_not,decide_eq_decide];omega
 have e4:(v.use !=0)=!decide (v.use=0):=by by_cases h:v.use=0<;>simp[h]
 have e5:(v.units !=0)=!decide (v.units=0):=by by_cases h:v.units=0<;>simp[h]
 rw[e1,e2,e3,e4,e5,show au.mk v.aE v.bp v.az v.bo=bH v from rfl];simp;generalize cI (bH v)=a1;generalize decide (0<=v.c9)=a2;generalize decide (v.c9<v.cR)=a3;generalize decide (v.cR<=4096)=a4;generalize decide (v.use=0)=a5;generalize decide (v.units=0)=a6;generalize decide (0<=v.use)=a7;generalize decide (v.use<6)=a8;generalize decide (0<=v.units)=a9;generalize decide (v.units<=1048576)=ju;cases a1<;>cases a2<;>cases a3<;>cases a4<;>cases a5<;>cases a6<;>cases a7<;>cases a8<;>cases a9<;>rfl
theorem MX{v:aA}(h:okV v=true):cI (bH v)=true:=by rw[okV,bq]at h;exact h.1
def ig(d:aJ):List aA:=d.phases.flatMap (·.cp)
theorem ev{l:List eD}(h:∀p∈l,p.cp.length<=1000):(l.flatMap (·.cp)).length<=l.length*1000:=by
 induction l with
 |nil=>simp
 |cons p l ih=>
  have h1:=h p (by simp);have h2:=ih λq hq=>h q (by simp[hq]);simp only[List.flatMap_cons,eZ,fG];omega
def H8(d:aJ):Prop:=d.phases.length<=1000/\∀p∈d.phases,p.cp.length<=1000
theorem VH{d:aJ}(h:H8 d)(hn:1001<=n):nP n d 0 d.phases.length=some (ig d):=by
 obtain⟨h1,h2⟩:=h;unfold nP;have key:=Cv (step:=ny d 0 d.phases.length) (λ i=>(i,(d.phases.take i).flatMap (·.cp))) (s:=(0,[])) d.phases.length (ig d) rfl (λ i hi=>by
  have e2:decide (i>=0)=true:=by simp
  have hl:=ev (l:=d.phases.take i) λp hp=>h2 p (List.mem_of_mem_take hp);rw[length_take]at hl;have hv:=h2 _ (getElem_mem hi);generalize hL:(d.phases.take i).flatMap (·.cp)=L at hl;have hap:bQ L.length L.length d.phases[i].cp.length d.phases[i].cp.length 72=true:=dP (by omega) (by simp[maxLen];omega);simp only[ny,cu hi,aj,bf hi,ai,e2,hap,eu,aI,aQ i];rw[jr hi,List.flatMap_append,hL];simp) (by simp[ny,ig]) n (by omega)
 have hz:be 0 ([]:List aA).length=true:=rfl;simp[key]
def MZ(v:aA):Int:=(iK v).getD 0
theorem VI(v:aA):iK v=some (MZ v):=by unfold MZ iK;rw[kI];cases v.extra<;>cases okV v<;>rfl
def AR(v:aA):Int:=(l5 v).getD 0
theorem VJ(v:aA):l5 v=some (AR v):=by
 unfold AR l5;rw[kI,VI];cases h:okV v with
 |false=>rfl
 |true=>
  have e:=Ct (MX h);unfold bH at e;simp[e]
def xv(f:aA->Int)(l:List aA):Int:=l.foldl (λ s v=>i64.wrap (s+f v)) 0
def DG(f:aA->Int)(l:List aA):Int:=l.foldl (λ s v=>max s (f v)) 0
theorem ang a1 a8 {a9:List aA} (hl:a9.length<=1000) (hn:1001<=n):∀a0 a2 a3 a4 a5 a6 a7,kL n a0 a1 a2 a3 a4 a5 a6 a7 a8 a9=some (xv AR a9,a0,a1,a2,a3,a4,a5,a6,a7,a8,a9):=by have key:=kW (l:=a9) (step:=jL a9) (λ i s=>(s,i)) (λ v s=>i64.wrap (s+AR v)) (λ s=>s) (λ i hi s=>by simp only[jL,cu hi,aj,bE hi,bJ hi,ai,VJ,aQ i]) (λ s=>by simp[jL]) n (by omega) 0;rw[k8]at key;unfold kL p9;simp only[key,ai,aI,aj];exact λ_ _ _ _ _ _ _=>rfl
theorem anh a1 a8 {a9:List aA} (hl:a9.length<=1000) (hn:1001<=n):∀a0 a2 a3 a4 a5 a6 a7,kM n a0 a1 a2 a3 a4 a5 a6 a7 a8 a9=some (xv (·.units) a9,a0,a1,a2,a3,a4,a5,a6,a7,a8,a9):=by have key:=kW (l:=a9) (step:=jO a9) (λ i s=>(s,i)) (λ v s=>i64.wrap (s+v.units)) (λ s=>s) (λ i hi s=>by simp only[jO,cu hi,aj,bE hi,bJ hi,ai,om,aQ i]) (λ s=>by simp[jO]) n (by omega) 0;rw[k8]at key;unfold kM qa;simp only[key,ai,aI,aj];exact λ_ _ _ _ _ _ _=>rfl
theorem aky a1 a8 {a9:List aA} (hl:a9.length<=1000) (hn:1001<=n):∀a0 a2 a3 a4 a5 a6 a7,jM n a0 a1 a2 a3 a4 a5 a6 a7 a8 a9=some (DG MZ a9,a0,a1,a2,a3,a4,a5,a6,a7,a8,a9):=by have key:=kW (l:=a9) (step:=gY a9) (λ i s=>(s,i)) (λ v s=>max s (MZ v)) (λ s=>s) (λ i hi s=>by simp only[gY,cu hi,aj,bE hi,bJ hi,ai,VI,aQ i]) (λ s=>by simp[gY]) n (by omega) 0;rw[k8]at key;unfold jM l6;simp only[key,ai,aI,aj];exact λ_ _ _ _ _ _ _=>rfl
theorem akz a1 a8 {a9:List aA} (hl:a9.length<=1000) (hn:1001<=n):∀a0 a2 a3 a4 a5 a6 a7,jN n a0 a1 a2 a3 a4 a5 a6 a7 a8 a9=some (DG (·.cR) a9,a0,a1,a2,a3,a4,a5,a6,a7,a8,a9):=by have key:=kW (l:=a9) (step:=gZ a9) (λ i s=>(s,i)) (λ v s=>max s v.cR) (λ s=>s) (λ i hi s=>by simp only[gZ,cu hi,aj,bE hi,bJ hi,ai,nE,aQ i]) (λ s=>by simp[gZ]) n (by omega) 0;rw[k8]at key;unfold jN l7;simp only[key,ai,aI,aj];exact λ_ _ _ _ _ _ _=>rfl
theorem ait(e:bC)(a:I6){u:Int}(h0:0<=u)(h6:u<6):∃b,ku e a u=some b:=by
 obtain⟨k,rfl⟩:∃k:Nat,u=k:=⟨u.toNat,by omega⟩;have hk:k<6:=by omega
 unfold ku;rw[bE hk,bf (l:=[a.a0,a.a1,a.a2,a.a3,a.a4,a.a5]) hk];exact⟨_,rfl⟩
theorem Ey{l:List bC}{φ:(bC×Unit)->Option Bool}(p:bC->Bool)(h:∀x∈l,φ (x,())=some (p x))(hl:l.length<=9223372036854775807)(hn:l.length<n):kz n l φ=some (AB p l):=EP p h hl hn
theorem ani(p:bW){u:Int}(h0:0<=u)(h6:u<6)(ht:p.tables.length<n)(ht2:p.tables.length<=9223372036854775807)(hr:∀t∈p.tables,t.rows.length<n/\t.rows.length<=9223372036854775807):∃r,zO n p u=some r:=by
 have key:∃o,iter (kC n p u) n 0=some o/\True:=by
  have step:∀i (hi:i<p.tables.length),kC n p u i=some (.inl (i+1:Nat))\/∃z,kC n p u i=some (.inr (.inr z)):=by
   intro i hi;obtain⟨r1,r2⟩:=hr _ (getElem_mem hi);simp only[kC,cu hi,aj,bf hi,ai,aQ i];cases ByteArray.toList p.tables[i].name==ByteArray.toList ⟨#[116,114,97,102,102,105,99]⟩with
   |false=>exact Or.inl rfl
   |true=>
    right;simp;generalize I6.mk _ _ _ _ _ _=A;have hx:=Ey (n:=n) (l:=p.tables[i].rows) (φ:=λy1=>ku y1.1 A u) (λ e=>(ku e A u).getD false) (λ e _=>by have⟨b,hb⟩:=ait e A h0 h6;simp[hb]) r2 r1;rw[hx];simp[wR];cases hany:p.tables[i].rows.any λe=>(ku e A u).getD false with
    |false=>exact⟨_,rfl⟩
    |true=>
     have⟨j,hj,h1,_⟩:=ajO hany;rw[h1];simp only[aj,bf hj,ai];exact⟨_,rfl⟩
  have main:∀k i m,i+k=p.tables.length->k<m->∃o,iter (kC n p u) m i=some o/\True:=by
   intro k
   induction k with
   |zero=>
    intro i m hi hm;obtain⟨q,rfl⟩:∃q,m=q+1:=⟨m-1,by omega⟩;have:i=p.tables.length:=(by omega);subst this;exact⟨.inl (),jl (by simp[kC]),trivial⟩
   |succ k ih=>
    intro i m hi hm;obtain⟨q,rfl⟩:∃q,m=q+1:=⟨m-1,by omega⟩;rcases step i (by omega)with h|⟨z,h⟩;rw[mO h];exact ih (i+1) q (by omega) (by omega);exact⟨_,jl h,trivial⟩
  exact main p.tables.length 0 n (by omega) ht
 obtain⟨o,h1,_⟩:=key;unfold zO;rw[h1];cases o with
 |inl w|inr r=>exact⟨_,rfl⟩
theorem afI(p:bW){v:aA}(hv:okV v=true)(ht:p.tables.length<n)(ht2:p.tables.length<=9223372036854775807)(hr:∀t∈p.tables,t.rows.length<n/\t.rows.length<=9223372036854775807):∃r,iL n p v=some r:=by
 simp[okV]at hv;have⟨r,h1⟩:=ani (n:=n) p (u:=v.use) hv.2.2.2.2.2.1 hv.2.2.2.2.2.2.1 ht ht2 hr;unfold iL;rw[h1,VJ];simp;have e100:(100 !=0)=true:=rfl;by_cases h:r>0;have e:(r !=0)=true:=by simp;omega
 have e2:decide (r>0)=true:=by simpa using h
 rw[e,e2];simp;cases decide (AR v>i64.wrap (Int.tdiv 109951162777600 r))<;>exact⟨_,rfl⟩;have e2:decide (r>0)=false:=by simpa using h
 rw[e2];exact⟨_,rfl⟩
def Zn(n:Nat)(ts:List bS)(v:aA):Int:=(iL n (bW.mk [] ts [] [] [] [] [] 0) v).getD 0
theorem anj a1 a8 {a9:List aA} (hl:a9.length<=1000) (hn:1001<=n) (hv:∀v∈a9,okV v=true) (ht:a1.length<n) (ht2:a1.length<=9223372036854775807) (hr:∀t∈a1,t.rows.length<n/\t.rows.length<=9223372036854775807):∀a0 a2 a3 a4 a5 a6 a7,jB n a0 a1 a2 a3 a4 a5 a6 a7 a8 a9=some (xv (Zn n a1) a9,a0,a1,a2,a3,a4,a5,a6,a7,a8,a9):=by have key:=λa0 a2 a3 a4 a5 a6 a7=>gm (l:=a9) (step:=jQ n a9) (λ i s=>(s,i,a0,a1,a2,a3,a4,a5,a6,a7,a8,a9)) (λ v s=>i64.wrap (s+(iL n (bW.mk [] a1 [] [] [] [] [] 0) v).getD 0)) (λ s=>(s,a0,a1,a2,a3,a4,a5,a6,a7,a8,a9)) (λ _ _=>True) (λ i hi s _=>⟨by obtain⟨r,h1⟩:=afI (n:=n) (bW.mk [] a1 [] [] [] [] [] 0) (hv _ (getElem_mem hi)) ht ht2 hr;have h2:iL n (bW.mk a0 a1 a2 a3 a4 a5 a6 a7) a9[i]=some r:=h1;simp only[jQ,cu hi,aj,bE hi,bJ hi,ai,kD,h1,h2,aI,aQ i,Option.getD_some],trivial⟩) (λ s _=>by simp[jQ]) n (by omega) 0 trivial;have key:=λa0 a2 a3 a4 a5 a6 a7=>(k8) ▸ key a0 a2 a3 a4 a5 a6 a7;unfold jB qb;simp only[key,ai,aI,aj];exact λ_ _ _ _ _ _ _=>rfl
theorem akA{α β:Type}(l:List α)(f:α->β)(z:β){i:Nat}(hi:i<l.length):((l.take i).map f++List.replicate (l.length-i) z).set i (f l[i])=(l.take (i+1)).map f++List.replicate (l.length-(i+1)) z:=by
 have h1:((l.take i).map f).length=i:=by simp;omega
 rw[List.set_append_right _ _ (by omega),h1,Nat.sub_self,show l.length-i=(l.length-(i+1))+1 by omega,List.replicate_succ,List.set_cons_zero,jr hi,map_append,aR];rfl
theorem akB{α β:Type}(l:List α)(f:α->β)(z:β){i:Nat}(hi:i<=l.length):((l.take i).map f++List.replicate (l.length-i) z).length=l.length:=by simp;omega
theorem akC{α β:Type}(l:List α)(f:α->β)(z:β){i:Nat}(hi:i<l.length):((l.take (i+1)).map f++List.replicate (l.length-(i+1)) z)[i]? =some (f l[i]):=by rw[List.getElem?_append_left (by simp;omega)];simp[hi]
theorem akD{l:List aA}(hl:l.length<=1000)(hn:1001<=n):iter (gF l) n (0,List.replicate l.length (au.mk 0 0 0 0),[])=some (l.map bH,l.flatMap λv=>[v.aE,v.az]):=by
 refine Cv (step:=gF l) (λ i=>(i,(l.take i).map bH++List.replicate (l.length-i) (au.mk 0 0 0 0),(l.take i).flatMap λv=>[v.aE,v.az])) l.length _ ?_ (λ i hi=>?_) ?_ n (by omega);simp;have h1:=akB l bH (au.mk 0 0 0 0) (Nat.le_of_lt hi);have h2:=akA l bH (au.mk 0 0 0 0) hi;have h3:=akC l bH (au.mk 0 0 0 0) hi;have h4:((l.take i).flatMap λv=>[v.aE,v.az]).length=2*i:=by
  have:∀m:List aA,(m.flatMap λv=>[v.aE,v.az]).length=2*m.length:=by
   intro m;induction m with
   |nil=>rfl
   |cons a m ih=>simp[ih];omega
  rw[this,length_take];omega
 generalize (l.take i).map bH++List.replicate (l.length-i) (au.mk 0 0 0 0)=B at h1 h2;have e0:(((0:Nat):Int)+i).toNat=i:=by omega
 have et:(l.length:Int).toNat=l.length:=by omega
 have hb:au.mk l[i].aE l[i].bp l[i].az l[i].bo=bH l[i]:=rfl;have hiB:i<B.length:=by omega
 rw[<- h2]at h3;have g3:cd (B.set i (bH l[i])) ((0:Nat)+i)=some (bH l[i]):=by rw[IW];exact h3
 have hs:sub ([(bH l[i]).x0,(bH l[i]).x1]:List Int) 0 2=[(bH l[i]).x0,(bH l[i]).x1]:=rfl;have hap:bQ (2*i) (2*i) 2 2 8=true:=dP (by omega) (by simp[maxLen];omega);have hl2:([(bH l[i]).x0,(bH l[i]).x1]:List Int).length=2:=rfl;simp only[gF,cu hi,aj,bE hi,bJ hi,ai,et,bJ hiB,e0,hb,g3,hs,hl2,h4,hap,eu,aI,aQ i];rw[<- h2,jr hi,List.flatMap_append];rfl;simp only[gF,nT,ax,aI,aj,List.take_length];simp
def cst(x w:Int)(s:Int×Int)(r:au):Int×Int:=
 bif decide (r.x0<=x)&&(decide (x<r.x1)&&decide (r.y1>s.2))then(i64.wrap (s.1+i64.wrap (i64.wrap w*i64.wrap (r.y1-max s.2 r.y0))),r.y1)else s
def xt(R:List au)(X:List Int)(n:Int)(k:Nat):Int:=(R.foldl (cst (X.getD k 0) (X.getD (k+1) 0-X.getD k 0)) (n,0)).1
def Mu(R:List au)(X:List Int):Int:=(List.range (X.length-1)).foldl (xt R X) 0
def KH(l:List aA):Int:=Mu (mX qe (l.map bH)) (iy ke (l.flatMap λv=>[v.aE,v.az]))
theorem akE{l:List aA}{R:List au}{X:List Int} w2 (hR:R.length=l.length) (hX:X.length=w2.length) (hl:l.length<=1000) (hn:1001<=n) {k:Nat} (hk:k+1<w2.length) (hw:w2.length<=10000) s:iter (gG l w2 R X k) n (s,0,0)=some (xt R X s k):=by
 have et:((l.length:Int).toNat)=l.length:=by omega
 have ew:i64.wrap (k+1)=(k+1:Nat):=bB (by omega);have g1:X.getD k 0=X[k]'(by omega):=by simp[show k<X.length by omega]
 have g2:X.getD (k+1) 0=X[k+1]'(by omega):=by simp[show k+1<X.length by omega]
 unfold xt;rw[g1,g2];refine kW (l:=R) (step:=gG l w2 R X k) (λ i (s:Int×Int)=>(s.1,s.2,i)) (λ r s=>cst (X[k]'(by omega)) (X[k+1]'(by omega)-X[k]'(by omega)) s r) (λ s=>s.1) (λ i hi v=>?_) (λ v=>?_) n (by omega) (s,0);obtain⟨a,b⟩:=v;simp only[gG,et,cu (show i<l.length by omega),aj,bE (show i<l.length by omega),bJ (show i<R.length by omega),ai,bE (show k<w2.length by omega),bJ (show k<X.length by omega),ew,bE hk,bJ (show k+1<X.length by omega),aQ i,cst];cases decide ((R[i]'(by omega)).x0<=X[k]'(by omega))with
 |false=>rfl
 |true=>
  simp;cases decide (X[k]'(by omega)<(R[i]'(by omega)).x1)with
  |false=>rfl
  |true=>
   cases decide ((R[i]'(by omega)).y1>b)<;>rfl
 obtain⟨a,b⟩:=v;simp[gG,hR]
theorem akF a1 a8 {a9:List aA} (hl:a9.length<=1000) (hn:10000<=n):∀a0 a2 a3 a4 a5 a6 a7,iV n a0 a1 a2 a3 a4 a5 a6 a7 a8 a9=some (KH a9,a0,a1,a2,a3,a4,a5,a6,a7,a8,a9):=by
 have et:((a9.length:Int).toNat)=a9.length:=by omega
 have mk:ze (a9.length:Nat) 32=true:=ahh (by omega) (by simp[maxLen];omega);have d1:decide ((a9.length:Nat)<=(a9.length:Nat))=true:=by simp
 have d2:decide (0<=(a9.length:Nat))=true:=by simp
 have hz:be 0 ([]:List Int).length=true:=rfl;have hx:(a9.flatMap λv=>[v.aE,v.az]).length<=2000:=by
  have:∀m:List aA,(m.flatMap λv=>[v.aE,v.az]).length=2*m.length:=by
   intro m;induction m with
   |nil=>rfl
   |cons a m ih=>simp[ih];omega
  rw[this];omega
 unfold iV;rw[et,akD hl (by omega)];unfold KH;generalize (a9.flatMap λv=>[v.aE,v.az])=W at hx;have srt:=Jl (n:=n) (l:=a9.map bH) (φ:=λy1=>iU y1.1 y1.2.1) (λ x y=>if x.y0<y.y0 then -1 else if y.y0<x.y0 then 1 else 0) (λ x y=>by show iU x y=_;unfold iU;rw[kG];rfl) (λ x y=>by unfold qe;rw[decide_eq_decide];constructor;intro h;split at h;assumption;split at h<;>omega;intro h;rw[bA h];decide) (by simp;omega) (by simp;omega);have hm:be a9.length (a9.map bH).length=true:=by simp
 have hR:(mX qe (a9.map bH)).length=a9.length:=by rw[DU Je];simp
 have hX:(iy ke W).length=W.length:=(yC ke W).length_eq;simp[mk,srt,oQ (show W.length<1099511627776 by omega) (show W.length<n by omega)];generalize mX qe (a9.map bH)=R at hR;generalize iy ke W=X at hX;have key:iter (gH n a9 W R X) n (0,0)=some (Mu R X):=by
  have eN:max 0 (i64.wrap ((W.length:Nat)-1))=(W.length-1:Nat):=by
   cases h:W.length with
   |zero=>rfl
   |succ k=>rw[mM (by omega) (by omega)];omega
  have hrl:(List.range (X.length-1)).length=W.length-1:=by rw[List.length_range];omega
  unfold Mu;refine kW (l:=List.range (X.length-1)) (step:=gH n a9 W R X) (λ i s=>(s,i)) (λ k s=>xt R X s k) (λ s=>s) (λ i hi s=>?_) (λ s=>?_) n (by omega) 0;have hi':i<W.length-1:=by omega
  simp only[gH,eN,cu hi',aj,akE (n:=n) (l:=a9) (R:=R) (X:=X) W hR hX hl (by omega) (k:=i) (by omega) (by omega) s,ai,aQ i,List.getElem_range];simp[gH,eN,hrl]
 rw[key];exact λ_ _ _ _ _ _ _=>rfl
def yN(b:au)(k:Int):au:=⟨b.x0-k,b.y0-k,b.x1+k,b.y1+k⟩
def kQ(area:List au)(b:au)(k:Int):Bool:=cI (yN b k)&&decide (area.foldl (λ s y=>Eu (yN b k) s y) 0=yL (yN b k))
theorem aiu(b:au) k a2 a3 a4 a5 a6 a7 a8 a9 {ju:List au} sm (hb:cI b=true) (h0:0<=k) (h1:k<=1048576) (hl:ju.length<=1000) (hn:1001<=n):
 jP n b k a2 a3 a4 a5 a6 a7 a8 a9 ju sm=some (kQ ju b k,a2,a3,a4,a5,a6,a7,a8,a9,ju,sm):=by
 rw[tT]at hb;unfold jP AO kQ;rw[bZ (x:=b.x0-k),bZ (x:=b.y0-k),bZ (x:=b.x1+k),bZ (x:=b.y1+k),show au.mk (b.x0-k) (b.y0-k) (b.x1+k) (b.y1+k)=yN b k from rfl,jc];generalize yN b k=g;simp;cases hg:cI g with
 |false=>simp
 |true=>
  have key:=kW (l:=ju) (step:=iQ ju (g,true)) (λ i s=>(s,i)) (λ y s=>Eu g s y) (λ s=>s) (λ i hi s=>by
   simp only[iQ,cu hi,aj,bf hi,ai,tO,aQ i,Eu];cases h1:cI g with
   |false=>rfl
   |true=>
    cases h2:cI ju[i]with
    |false=>rfl
    |true=>
     cases h3:cI (iO g ju[i])with
     |false=>rfl
     |true=>simp[Ct h3]) (λ s=>by simp[iQ]) n (by omega) 0
  rw[k8]at key;simp[key,Ct hg];congr 2
def Cw(p:Int->Bool):Nat->Int->Int->Int
 | 0,lo,_=>lo
 |k+1,lo,hi=>bif decide (lo<hi)then(bif p ((lo+hi+1)/2)then Cw p k ((lo+hi+1)/2) hi else Cw p k lo ((lo+hi+1)/2-1))else lo
theorem SF(p:Int->Bool):∀k lo hi,lo<=hi->lo<=Cw p k lo hi/\Cw p k lo hi<=hi
 | 0,lo,hi,h=>by simp[Cw];omega
 |k+1,lo,hi,h=>by
  simp[Cw];by_cases h1:lo<hi;have e:decide (lo<hi)=true:=by simpa using h1
  rw[e,aj];cases p ((lo+hi+1)/2)with
  |true=>have:=SF p k ((lo+hi+1)/2) hi (by omega);simp;omega
  |false=>have:=SF p k lo ((lo+hi+1)/2-1) (by omega);simp;omega
  have e:decide (lo<hi)=false:=by simpa using h1
  rw[e,ax];omega
theorem afJ{v:aA}(hv:cI (bH v)=true) a2 a3 a4 a5 a6 a7 a8 a9 {ju:List au} sm (hl:ju.length<=1000) (hn:1001<=n):
 ∀(k:Nat) lo hi m,0<=lo->lo<=hi->hi<=1048576->hi-lo<2 ^ k->k<m->iter (dY n v) m (lo,hi,a2,a3,a4,a5,a6,a7,a8,a9,ju,sm)=some (Cw (kQ ju (bH v)) k lo hi,a2,a3,a4,a5,a6,a7,a8,a9,ju,sm):=by
 intro k
 induction k with
 |zero=>
  intro lo hi m h0 h1 h2 h3 hm;obtain⟨q,rfl⟩:∃q,m=q+1:=⟨m-1,by omega⟩;have:lo=hi:=by simp at h3;omega
  subst this;refine jl ?_;have e:decide (lo<lo)=false:=by simp
  simp[dY,Cw]
 |succ k ih=>
  intro lo hi m h0 h1 h2 h3 hm;obtain⟨q,rfl⟩:∃q,m=q+1:=⟨m-1,by omega⟩;have hp:(2:Int) ^ (k+1)=2*2 ^ k:=by rw[Int.pow_succ];omega
  rw[hp]at h3;by_cases hlt:lo<hi;have e:decide (lo<hi)=true:=by simpa using hlt
  have e2:((2:Nat) !=0)=true:=rfl;have em:i64.wrap (Int.tdiv (i64.wrap (i64.wrap (lo+hi)+1)) 2)=(lo+hi+1)/2:=by rw[bZ (x:=lo+hi),bZ (x:=lo+hi+1),Int.tdiv_eq_ediv_of_nonneg (by omega),bZ (by omega) (by omega)]
  have hi2:=aiu (n:=n) (bH v) ((lo+hi+1)/2) a2 a3 a4 a5 a6 a7 a8 a9 (ju:=ju) sm hv (by omega) (by omega) hl hn;unfold bH at hi2;cases hc:kQ ju (bH v) ((lo+hi+1)/2)with
  |true=>
   rw[mO (v':=((lo+hi+1)/2,hi,a2,a3,a4,a5,a6,a7,a8,a9,ju,sm)) (by unfold bH at hc;simp[dY,e,em,hi2,hc]),ih _ _ _ (by omega) (by omega) (by omega) (by omega) (by omega)];simp[Cw,e,hc]
  |false=>
   rw[mO (v':=(lo,(lo+hi+1)/2-1,a2,a3,a4,a5,a6,a7,a8,a9,ju,sm)) (by unfold bH at hc;simp[dY,e,em,hi2,hc,bZ (x:=(lo+hi+1)/2-1)]),ih _ _ _ (by omega) (by omega) (by omega) (by omega) (by omega)];simp[Cw,e,hc]
  have e:decide (lo<hi)=false:=by simpa using hlt
  refine jl ?_;simp[dY,e,Cw]
def tX(area:List au)(l:List aA):Int:=l.foldl (λ b v=>Cw (kQ area (bH v)) 21 0 b) 1048576
theorem afK a0 a1 a2 a3 a4 a5 a6 a7 {a8:List au} {a9:List aA} (hv:∀v∈a9,okV v=true) (hl:a9.length<=1000) (h8:a8.length<=1000) (hn:1001<=n):jA n a0 a1 a2 a3 a4 a5 a6 a7 a8 a9=some (tX a8 a9,a0,a1,a2,a3,a4,a5,a6,a7,a8,a9):=by have key:=gm (l:=a9) (step:=iB n a9) (λ i s=>(s,i,a0,a1,a2,a3,a4,a5,a6,a7,a8,a9)) (λ v s=>Cw (kQ a8 (bH v)) 21 0 s) (λ s=>(s,a0,a1,a2,a3,a4,a5,a6,a7,a8,a9)) (λ _ s=>0<=s/\s<=1048576) (λ i hi s hs=>by have h1:=afJ (n:=n) (MX (hv _ (getElem_mem hi))) a0 a1 a2 a3 a4 a5 a6 a7 (ju:=a8) a9 h8 hn 21 0 s n (by omega) hs.1 hs.2 (by have:2 ^ 21=2097152:=rfl;omega) (by omega);have h2:=SF (kQ a8 (bH a9[i])) 21 0 s hs.1;refine⟨?_,by omega,by omega⟩;simp only[iB,cu hi,aj,bE hi,bJ hi,ai,aI,h1,aQ i]) (λ s _=>by simp[iB]) n (by omega) 1048576 (by omega);rw[k8]at key;unfold jA;simp[key];rfl
def dZ(d:aJ):List aA:=((ig d).take 40).filter okV
theorem M0(d:aJ):∀v∈dZ d,okV v=true:=λv hv=>(mem_filter.1 hv).2
theorem XM(d:aJ):(dZ d).length<=40:=Nat.le_trans (length_filter_le _ _) (by rw[length_take];omega)
def nU(lot:dO):List au:=bif cm lot.area then lot.area else []
theorem an1{l:List aA} a0 a1 a2 a3 a4 a5 a6 a7 a8 (hl:l.length<=9223372036854775807) (hn:l.length<n):
 iter (ql l) n (0,a0,a1,a2,a3,a4,a5,a6,a7,a8,[])=some (a0,a1,a2,a3,a4,a5,a6,a7,a8,(l.take 40).filter okV):=by
 refine Cv (step:=ql l) (λ i=>(i,a0,a1,a2,a3,a4,a5,a6,a7,a8,((l.take i).take 40).filter okV)) l.length _ (by simp) (λ i hi=>?_) ?_ n hn;have hlen:(((l.take i).take 40).filter okV).length<=40:=Nat.le_trans (length_filter_le _ _) (by rw[length_take];omega);have e40:decide ((i:Int)<40)=decide (i<40):=by rw[decide_eq_decide];omega
 have hs:sub ([l[i]]:List aA) 0 1=[l[i]]:=rfl;have hN:((l.take (i+1)).take 40).filter okV=((l.take i).take 40).filter okV++(bif decide (i<40)&&okV l[i]then [l[i]]else []):=by
  by_cases h:i<40;have h1:(l.take i).take 40=l.take i:=take_of_length_le (by rw[length_take];omega);have h2:(l.take (i+1)).take 40=l.take (i+1):=take_of_length_le (by rw[length_take];omega);have h3:decide (i<40)=true:=by simpa using h
  rw[h1,h2,jr hi,List.filter_append,h3];cases h4:okV l[i]<;>simp[h4];have h3:decide (i<40)=false:=by simpa using h
  rw[List.take_take,List.take_take,h3,show min 40 (i+1)=40 by omega,show min 40 i=40 by omega];simp
 rw[hN];generalize ((l.take i).take 40).filter okV=L at hlen;have hap:bQ L.length L.length 1 1 72=true:=dP (by omega) (by simp[maxLen];omega);simp only[ql,cu hi,aj,bE hi,bJ hi,ai,e40,kI,aQ i];cases decide (i<40)with
 |false=>simp
 |true=>
  simp;cases okV l[i]with
  |false=>simp
  |true=>simp[hs,hap]
 simp[ql]
def M1(n:Nat)(p:bW):Prop:=p.tables.length<n/\p.tables.length<=9223372036854775807/\∀t∈p.tables,t.rows.length<n/\t.rows.length<=9223372036854775807
def Cx:ByteArray:=⟨#[115,101,116,98,97,99,107]⟩
def QL(n:Nat)(ts:List bS)(A:List au)(l:List aA):List bC:=[⟨⟨#[97,114,101,97]⟩,bif cm A then Fb A else 0⟩,⟨⟨#[99,111,118,101,114]⟩,KH l⟩,⟨⟨#[102,108,111,111,114]⟩,xv AR l⟩,⟨⟨#[102,108,111,111,114,115]⟩,DG MZ l⟩,⟨⟨#[104,101,105,103,104,116]⟩,DG (·.cR) l⟩,⟨⟨#[104,111,109,101,115]⟩,xv (·.units) l⟩,⟨⟨#[114,117,110,111,102,102]⟩,KH l⟩,⟨Cx,tX A l⟩,⟨⟨#[116,114,97,102,102,105,99]⟩,xv (Zn n ts) l⟩]
theorem T1{p:bW}{lot:dO}{d:aJ}(hp:M1 n p)(hl:lot.area.length<=900)(hd:H8 d)(hn:2000000<=n):∀D Z R C V S H,kE n (bW.mk D p.tables Z R C V S H) lot d=some (QL n p.tables (nU lot) (dZ d)):=by
 have hs1:nU lot=(bif cm lot.area then lot.area else []):=rfl;have hsl:(nU lot).length<=900:=by unfold nU;cases cm lot.area<;>simp[hl]
 have hvl:=XM d;have hvo:=M0 d;have hfl:=ev hd.2;have hd1:=hd.1;obtain⟨hp1,hp2,hp3⟩:=hp;have hz:be 0 ([]:List aA).length=true:=rfl;have GP:∀D Z R C V S H,((bif cm lot.area then some (D,p.tables,Z,R,C,V,S,H,lot.area)else some (D,p.tables,Z,R,C,V,S,H,[])):Option ((List fI)×(List bS)×(List dh)×(List aL)×(List fE)×(List fD)×(List bU)×Int×(List au)))=some (D,p.tables,Z,R,C,V,S,H,nU lot):=by intro D Z R C V S H;rw[hs1];cases cm lot.area<;>rfl
 have h2:=akF (n:=n) p.tables (nU lot) (a9:=dZ d) (by omega) (by omega);have h3:=ang (n:=n) p.tables (nU lot) (a9:=dZ d) (by omega) (by omega);have h4:=aky (n:=n) p.tables (nU lot) (a9:=dZ d) (by omega) (by omega);have h5:=akz (n:=n) p.tables (nU lot) (a9:=dZ d) (by omega) (by omega);have h6:=anh (n:=n) p.tables (nU lot) (a9:=dZ d) (by omega) (by omega);have h8:=λD Z R C V S H=>afK (n:=n) D p.tables Z R C V S H (a8:=nU lot) (a9:=dZ d) hvo (by omega) (by omega) (by omega);have h9:=anj (n:=n) p.tables (nU lot) (a9:=dZ d) (by omega) (by omega) hvo hp1 hp2 hp3;intro D Z R C V S H;unfold kE;rw[iM (by omega) (by omega) (by omega),VH hd (by omega)];simp[GP];rw[an1 (n:=n) D p.tables Z R C V S H (nU lot) (by show(ig d).length<=_;unfold ig;omega) (by show(ig d).length<_;unfold ig;omega)];have hr:((ig d).take 40).filter okV=dZ d:=rfl;have s1:∀e:bC,sub ([e]:List bC) 0 1=[e]:=λ_=>rfl;have ap:∀k,k<=20->bQ k k 1 1 24=true:=λk hk=>dP (by omega) (by simp[maxLen];omega);have lot:mI n D p.tables Z R C V S H (nU lot) (dZ d)=some (bif cm (nU lot)then Fb (nU lot)else 0,D,p.tables,Z,R,C,V,S,H,nU lot,dZ d):=by unfold mI;rw[Es (by omega) (by omega)];simp
 simp[hr,lot,h2,h3,h4,ap 4 (by omega),h5,ap 5 (by omega),h6,ap 6 (by omega),h8,ap 7 (by omega),h9,ap 8 (by omega),Nat.reduceAdd,fF];rfl
theorem ank{p:bW}{lot:dO}{d:aJ}(hp:M1 n p)(hl:lot.area.length<=900)(hd:H8 d)(hn:2000000<=n):∃e1 e2 e3 e4 e5 e6 e7 e8:Int,∀D Z R C V S H,kE n (bW.mk D p.tables Z R C V S H) lot d=some [⟨⟨#[97,114,101,97]⟩,e1⟩,⟨⟨#[99,111,118,101,114]⟩,e2⟩,⟨⟨#[102,108,111,111,114]⟩,e3⟩,⟨⟨#[102,108,111,111,114,115]⟩,e4⟩,⟨⟨#[104,101,105,103,104,116]⟩,e5⟩,⟨⟨#[104,111,109,101,115]⟩,e6⟩,⟨⟨#[114,117,110,111,102,102]⟩,e7⟩,⟨Cx,tX (nU lot) (dZ d)⟩,⟨⟨#[116,114,97,102,102,105,99]⟩,e8⟩]:=⟨_,_,_,_,_,_,_,_,T1 (n:=n) hp hl hd hn⟩
theorem an2{p:bW}{lot:dO}{d:aJ}(hp:M1 n p)(hl:lot.area.length<=900)(hd:H8 d)(hn:2000000<=n):∃e1 e2 e3 e4 e5 e6 e7 e8:Int,∀R:List aL,kE n (bW.mk p.defs p.tables p.zones R p.caps p.views p.tI p.hours) lot d=some [⟨⟨#[97,114,101,97]⟩,e1⟩,⟨⟨#[99,111,118,101,114]⟩,e2⟩,⟨⟨#[102,108,111,111,114]⟩,e3⟩,⟨⟨#[102,108,111,111,114,115]⟩,e4⟩,⟨⟨#[104,101,105,103,104,116]⟩,e5⟩,⟨⟨#[104,111,109,101,115]⟩,e6⟩,⟨⟨#[114,117,110,111,102,102]⟩,e7⟩,⟨Cx,tX (nU lot) (dZ d)⟩,⟨⟨#[116,114,97,102,102,105,99]⟩,e8⟩]:=by have⟨e1,e2,e3,e4,e5,e6,e7,e8,h⟩:=ank (n:=n) hp hl hd hn;exact⟨e1,e2,e3,e4,e5,e6,e7,e8,λR=>h _ _ R _ _ _ _⟩
theorem ahi(ds:List (ByteArray×ET)) s:∀(k:Nat) i,Md ds s k=some i->0<=i/\i<k
 | 0,i,h=>by simp[Md]at h
 |k+1,i,h=>by simp[Md]at h;split at h;cases h;omega;have:=ahi ds s k i h;omega
theorem alZ{ds:List (ByteArray×ET)}(h:qq ds<=4000000):XG (og ds) ds.length:=by have hl:=Sv ds;refine⟨by simp[og],by omega,λl hl=>?_⟩;simp only[og,mem_map]at hl;obtain⟨d,hd,rfl⟩:=hl;have h1:=Sw hd;have h2:=ET.oe d.2;have h3:=acR d.2.names;refine⟨Nat.le_trans (List.length_filterMap_le _ _) (by omega),λk hk=>?_⟩;simp[iA]at hk;obtain⟨s,_,hk⟩:=hk;exact ahi ds s _ k hk
theorem adr{M:List ByteArray}(hM:M.length<=1000)(hn:1001<=n)(w0:List (ByteArray×Bool)):∃w,iter (nQ M) n (0,w0)=some w:=by obtain⟨o,h,_⟩:=eO (step:=nQ M) (λ i (v:Int×List (ByteArray×Bool))=>∃w,v=((i:Int),w)/\i<=M.length) (λ _=>True) M.length (λ k v ⟨_,_,h⟩=>h) (by rintro i v ⟨w,rfl,hi⟩;by_cases hlt:i<M.length;simp only[nQ,show decide ((i:Int)<M.length)=true from by simp;omega,aj,bE hlt,bJ hlt,ai,aQ i];exact .inl ⟨_,rfl,_,rfl,hlt⟩;simp only[nQ,show decide ((i:Int)<M.length)=false from by simp;omega,ax];exact .inr ⟨_,rfl,trivial⟩) n 0 (0,w0) ⟨_,rfl,Nat.zero_le _⟩ (by omega);exact⟨o,h⟩
theorem ads{p:bW}(hp:p.defs.length<=4000000)(hn:4000001<=n)(w0:List (ByteArray×Bool)):iter (kZ p) n (0,w0)=some (.inl ())\/iter (kZ p) n (0,w0)=some (.inr ([],[],5)):=by
 obtain⟨o,h,h2⟩:=eO (step:=kZ p) (λ i (v:Int×List (ByteArray×Bool))=>∃w,v=((i:Int),w)/\i<=p.defs.length) (λ o=>o=.inl ()\/o=.inr ([],[],5)) p.defs.length (λ k v ⟨_,_,h⟩=>h) (by
  rintro i v ⟨w,rfl,hi⟩;by_cases hlt:i<p.defs.length;simp only[kZ,show decide ((i:Int)<p.defs.length)=true from by simp;omega,aj,bf hlt,ai,aQ i];cases (gM Gb.ff p.defs[i].name w).getD false with
  |true=>exact .inr ⟨_,rfl,.inr rfl⟩
  |false=>exact .inl ⟨_,rfl,_,rfl,hlt⟩
  simp only[kZ,show decide ((i:Int)<p.defs.length)=false from by simp;omega,ax];exact .inr ⟨_,rfl,.inl rfl⟩) n 0 (0,w0) ⟨_,rfl,Nat.zero_le _⟩ (by omega)
 rcases h2 with rfl|rfl;exact .inl h;exact .inr h
theorem adt:∃M,wH=some M/\M.length=9:=⟨_,rfl,rfl⟩
def gC(l:List fI):Prop:=qq (l.map toD)<=4000000
theorem gC.len{l:List fI}(h:gC l):l.length<=4000000:=by have:=Sv (l.map toD);rw[length_map]at this;unfold gC at h;omega
theorem gC.body{l:List fI}(h:gC l){d:fI}(hd:d∈l):(toE (bD.mk d.iu d.lj d.km d.ik d.ek)).wt<=4000000:=by have h1:=Sw (mem_map.2 ⟨d,hd,rfl⟩:toD d∈l.map toD);unfold gC at h;simp[toD,ET.wt]at h1;simp[toE,ET.wt];omega
theorem Rm{p:bW}(hp:gC p.defs)(hn:5000003<=n):∃r,nI n p=some r/\r.1.length<=p.defs.length/\(∀ k∈r.1,0<=k/\k<p.defs.length)/\r.2.1.length<=p.defs.length+1:=by
 obtain⟨M,hM,hM9⟩:=adt;obtain⟨w,hw⟩:=adr (n:=n) (M:=M) (by omega) (by omega) [];have hg:XG (og (p.defs.map toD)) p.defs.length:=by have:=alZ hp;rwa [length_map]at this
 have GW:kY p.defs=some (p.defs,og (p.defs.map toD)):=by unfold kY;rw[Nat.ble_eq_true_of_le hp];rfl
 simp only[nI,hM,ai,hw];rcases ads (n:=n) (p:=p) hp.len (by omega) w with h|h;have⟨c,hc,hc2,hc3⟩:=ac0 (n:=n) (a0:=p.defs) hg rfl hn;simp only[h,fO,GW,ai,hc];cases h0:(c.length==0)with
 |true=>
  have e:c=[]:=List.eq_nil_of_length_eq_zero (by simpa using h0);obtain⟨l,hl,hll,hlr⟩:=akj (n:=n) (a0:=oM.mk p.defs (og (p.defs.map toD))) hg rfl (hc2 e) (by omega);simp only[aj,ai,ax,hl,fF,aI];exact⟨_,rfl,by simp[hll],hlr,by simp⟩
 |false=>
  simp only[aj,ai,ax,fF,aI];exact⟨_,rfl,by simp,by simp,hc3⟩
 simp only[h,iD];exact⟨_,rfl,by simp,by simp,by simp⟩
theorem Cy(x:bD):bD.mk x.op x.n x.s x.key x.args=x:=by cases x;rfl
theorem M4:∀l:List bD,G8 l=l.map toE
 |[]=>rfl
 |x::xs=>by simp[G8,M4 xs]
theorem ahj:∀{l:List ET}{t:ET},t∈l->t.wt<=ET.sx l
 |x::l,t,h=>by simp[ET.sx];rcases aP.1 h with rfl|h;omega;have:=ahj h;omega
theorem Vc{e x:bD}(h:x∈e.args):(toE x).wt<(toE e).wt:=by have h1:(toE x).wt<=ET.sx (G8 e.args):=ahj (by rw[M4];exact mem_map.2 ⟨x,h,rfl⟩);cases e;simp[toE,ET.wt]at *;omega
theorem X2(e:bD):e.args.length<(toE e).wt:=by have h1:=ET.pT (G8 e.args);rw[M4,length_map]at h1;cases e;simp[toE,ET.wt,M4]at *;omega
def VR:Nat->bD->Prop
 | 0,_=>False
 |k+1,e=>yG e.op=some ((e.args.length:Int),true)/\∀x∈e.args,VR k x
theorem afM op:∃a b,yG op=some (a,b):=by simp only[yG];cases (op==0)<;>cases (op==1)<;>cases (op==2)<;>cases (op==3)<;>cases (op==9)<;>cases (op==15)<;>cases (op==16)<;>cases (decide (op>=0))<;>exact⟨_,_,rfl⟩
theorem Zo(hn:4000002<=n):∀(m:Nat)(e:bD)(a:Int),m<=9223372036854775000->0<=a->a<=12->13<=a+m->(toE e).wt<=4000000->∃r,rq n m e a=some r/\1<=r/\r<=13+m/\(r<=12->VR m e)
 | 0,_,_,_,_,_,h,_=>absurd h (by omega)
 |m+1,e,a,hm,h0,h1,h2,h3=>by
  have⟨x,b,hx⟩:=afM e.op;have hla:=X2 e;show ∃r,zP n (rq n m) e a=some r/\_;simp[zP,hx];have bad:∃r,some (13:Int)=some r/\1<=r/\r<=13+(m+1:Nat)/\(r<=12->VR (m+1) e):=⟨13,rfl,by omega,by omega,λh=>absurd h (by omega)⟩;cases b with
  |false=>simpa[Bool.not_false,aj,ai]using bad
  |true=>
   simp;by_cases hxl:x=e.args.length;subst hxl;simp;by_cases ha:a>=12;simpa[ha,decide_true,aj]using bad;simp[ha]
   obtain⟨o,g1,g2,g3,g4⟩:=eO (step:=wZ n (rq n m) e a) (λ i (v:Int×Int)=>v.2=i/\i<=e.args.length/\0<=v.1/\v.1<=13+m/\(v.1<=11->∀y∈e.args.take i,VR m y))
    (λ o=>0<=o/\o<=13+m/\(o<=11->∀y∈e.args,VR m y)) e.args.length (λ k v h=>h.2.1) (by rintro i ⟨v2,v3⟩ ⟨hv,hi,i1,i2,i3⟩;simp at hv i1 i2 i3;subst hv;by_cases hlt:i<e.args.length;left;have hwx:=Vc (getElem_mem hlt);obtain⟨r,r1,r2,r3,r4⟩:=Zo hn m e.args[i] (a+1) (by omega) (by omega) (by omega) (by omega) (by omega);refine⟨(max v2 r,(i+1:Nat)),?_,rfl,hlt,by show 0<=max v2 r;omega,by show max v2 r<=_;omega,λh y hy=>?_⟩;simp only[wZ,show decide ((i:Int)<e.args.length)=true from by simp;omega,aj,bf hlt,ai,Cy,bZ (show -9223372036854775808<=a+1 by omega) (show a+1<=9223372036854775807 by omega),r1,aQ i];have h':max v2 r<=11:=h;rw[List.take_add_one,dD hlt]at hy;rw[bO]at hy;rcases hy with hy|hy;exact i3 (by omega) y hy;simp at hy;subst hy;exact r4 (by omega);right;refine⟨v2,?_,i1,i2,λh y hy=>i3 h y (by rw[take_of_length_le (by omega)];exact hy)⟩;simp only[wZ,show decide ((i:Int)<e.args.length)=false from by simp;omega,ax]) n 0 (0,0) ⟨rfl,Nat.zero_le _,by simp,by show 0<=_;omega,by simp⟩ (by omega)
   simp only[g1,ai];rw[bZ (by omega) (by omega)];exact⟨o+1,rfl,by omega,by omega,λh=>⟨hx,g4 (by omega)⟩⟩;simpa[show (x !=(e.args.length:Nat))=true from by simpa using hxl,aj,ai]using bad
theorem QM(hn:4000002<=n)(hn2:n<=9223372036854775000){e:bD}(h:(toE e).wt<=4000000):∃b,G7 n e=some b/\(b=true->VR n e):=by obtain⟨r,h1,h2,h3,h4⟩:=Zo hn n e 0 hn2 (by omega) (by omega) (by omega) h;refine⟨decide (r<=12),?_,λh=>h4 (by simpa using h)⟩;simp[G7,Cy,OI,h1]
def an3(tables:List bS)(s key:ByteArray):Int:=match tables.find? λt=>ByteArray.toList t.name==ByteArray.toList s with
 |some t=>anY t key
 |none=>0
def Lw(ts:List bS):Prop:=ts.length<=4000000/\∀t∈ts,t.rows.length<=4000000
theorem aiv(hn:4000002<=n){a0:List fI}{ts:List bS}{a2:List dh}{a3:List aL}{a4:List fE}{a5:List fD}{a6:List bU}{a7:Int}{zs:List ByteArray}(ht:Lw ts)(e:bD)(kn:List (ByteArray×Int)):jC n a0 ts a2 a3 a4 a5 a6 a7 zs e kn=some (an3 ts e.s e.key,kn):=by
 have h1:=ht.1;simp[jC];rw[E9 (λ t=>ByteArray.toList t.name==ByteArray.toList e.s) (λ x _=>rfl) (by omega) (by omega)];simp[an3];rcases VB (λ t:bS=>ByteArray.toList t.name==ByteArray.toList e.s) ts with ⟨i,hi,h1,h2⟩|⟨h1,h2⟩;rw[h1,h2];have d:decide ((i:Int)<0)=false:=by simp
 have hr:=ht.2 _ (getElem_mem hi);simp[d,bf hi];rw[Fa (λ x=>ByteArray.toList x.name==ByteArray.toList e.key) (λ x _=>rfl) (by omega) (by omega)];simp[anY];rcases VB (λ x:bC=>ByteArray.toList x.name==ByteArray.toList e.key) ts[i].rows with ⟨j,hj,g1,g2⟩|⟨g1,g2⟩;rw[g1,g2];have d:decide ((j:Nat)>=0)=true:=by simp
 simp[bf hj];rw[g1,g2];rfl;rw[h1,h2];rfl
theorem eT{α:Type}{c:Bool}{x y:Option α}(hx:∃r,x=some r)(hy:∃r,y=some r):∃r,(bif c then x else y)=some r:=by cases c<;>assumption
theorem XO(a b:Int):∃r,vY a b=some r:=by
 simp[vY];cases h:(b==0)with
 |true=>exact⟨_,rfl⟩
 |false=>
  have:(b !=0)=true:=by simp[bne,h]
  simp[this];cases (Int.tmod a b !=0)<;>cases (decide (Int.tmod a b<0)==decide (b<0))<;>exact⟨_,rfl⟩
theorem VK b:∃r,yH b=some r:=eT ⟨_,rfl⟩ ⟨_,rfl⟩
theorem rD{α β:Type}{x:Option α}{f:α->Option β}(hx:∃r,x=some r)(hf:∀r,∃s,f r=some s):∃s,x.bind f=some s:=by obtain⟨r,rfl⟩:=hx;exact hf r
theorem adu(op a b:Int):∃r,I8 op a b=some r:=by
 have q:=XO a b;have t:=λc=>VK c;unfold I8
 repeat' first
  |exact⟨_,rfl⟩
  |exact q
  |exact t _
  |apply eT
  |(refine rD ?_ λr=>?_)
theorem H9(h:0<n):cP 0 n=true:=by simp[cP];omega
theorem adv(h:1<n):cP 1 n=true:=by simp[cP];omega
theorem akH(h:2<n):cP 2 n=true:=by simp[cP];omega
theorem M5{α:Type}{l:List α}(h:0<l.length):cd l ((0:Nat)+0)=some l[0]:=bJ (i:=0) h
theorem ahl{α:Type}{l:List α}(h:1<l.length):cd l ((0:Nat)+1)=some l[1]:=bJ (i:=1) h
theorem al0{α:Type}{l:List α}(h:2<l.length):cd l ((0:Nat)+2)=some l[2]:=bJ (i:=2) h
theorem XP{l:List ByteArray}{s:ByteArray}(hl:l.length<=4000000)(hn:4000002<=n):∃r,fJ n l s=some r:=by
 obtain⟨o,h,_⟩:=eO (step:=nD l s) (λ i v=>v=i/\i<=l.length) (λ _=>True) l.length (λ k v h=>h.2) (by
  rintro i v ⟨rfl,hi⟩;by_cases hlt:i<l.length;simp only[nD,show decide ((i:Int)<l.length)=true from by simp;omega,aj,bf hlt,ai,aQ i];cases (ByteArray.toList s==ByteArray.toList l[i])with
  |true=>exact .inr ⟨_,rfl,trivial⟩
  |false=>exact .inl ⟨_,rfl,rfl,hlt⟩
  simp only[nD,show decide ((i:Int)<l.length)=false from by simp;omega,ax];exact .inr ⟨_,rfl,trivial⟩) n 0 0 ⟨rfl,Nat.zero_le _⟩ (by omega)
 simp only[fJ,qE,h];cases o with
 |inl u=>cases u;simp only[fO,ai];exact⟨_,rfl⟩
 |inr r=>simp only[iD,ai];exact⟨_,rfl⟩
theorem aiw{op a:Int}(h0:(op==0)=false)(h1:(op==1)=false)(h2:(op==2)=false)(h3:(op==3)=false)(h9:(op==9)=false)(Jn:(op==15)=false)(h16:(op==16)=false)(h:yG op=some (a,true)):a=2:=by
 simp[yG,h0,h1,h2,h3,h9,Jn,h16]at h;cases hd:decide (op>=0)with
 |true=>rw[hd]at h;simp at h;exact h.1.symm
 |false=>rw[hd]at h;simp at h
section
variable {n:Nat} {a0:List fI} {ts:List bS} {a2:List dh} {a3:List aL} {a4:List fE} {a5:List fD} {a6:List bU} {a7:Int} {zs:List ByteArray}
theorem VL(hn:4000002<=n)(ht:Lw ts)(hz:zs.length<=4000000):∀(m:Nat)(e:bD)(kn:List (ByteArray×Int)),VR m e->(toE e).wt<=4000000->∃v,bR n m a0 ts a2 a3 a4 a5 a6 a7 zs e kn=some (v,kn)
 | 0,_,_,h,_=>h.elim
 |m+1,e,kn,⟨ha,hr⟩,hw=>by
  have hla:=X2 e;have hmx:maxLen=9223372036854775807:=rfl;show ∃v,fw n (bR n m) a0 ts a2 a3 a4 a5 a6 a7 zs e kn=some (v,kn)
  obtain⟨o,h1,l,rfl,hl⟩:=eO (step:=eX n (bR n m) a0 ts a2 a3 a4 a5 a6 a7 zs e) (λ i (v:Int×List (ByteArray×Int)×List Int)=>∃l,v=((i:Int),kn,l)/\i<=e.args.length/\l.length=i)
   (λ o=>∃l,o=(kn,l)/\l.length=e.args.length) e.args.length (λ k v ⟨_,_,h,_⟩=>h) (by
   rintro i v ⟨l,rfl,hi,hl⟩;by_cases hlt:i<e.args.length;left;have hwx:=Vc (getElem_mem hlt);obtain⟨x,hx⟩:=VL hn ht hz m e.args[i] kn (hr _ (getElem_mem hlt)) (by omega);have key:∃b,((bif (e.op==(16:Int))then(bif (decide ((i:Int)>(0:Int)))then(ck (cP 0 l.length) ((cd l ((0:Nat)+0:Int)).bind λx2=>some (!((x2 !=(0:Int))==((i:Int)==1)))))else some false)else some false):Option (Bool))=some b:=(by refine eT ?_ ⟨_,rfl⟩;by_cases h0:(i:Int)>0;simp only[h0,decide_true,aj,H9 (show 0<l.length by omega),M5 (show 0<l.length by omega),ai];exact⟨_,rfl⟩;simp only[h0,decide_false,ax];exact⟨_,rfl⟩);obtain⟨b,hb⟩:=key;have hap:∀z:Int,bQ l.length l.length (sub [z] 0 1).length 1 8=true:=λz=>(by simp[bQ,sub];omega);simp only[eX,show decide ((i:Int)<e.args.length)=true from by simp;omega,aj,bf hlt,ai,hb,Cy,hx,hap,eu,aI,aQ i];cases b with
   |true|false=>exact⟨_,rfl,_,rfl,hlt,by simp[sub,hl]⟩
   right;refine⟨(kn,l),?_,l,rfl,by omega⟩;simp only[eX,show decide ((i:Int)<e.args.length)=false from by simp;omega,ax,aI,aj]) n 0 (0,kn,[]) ⟨[],rfl,Nat.zero_le _,rfl⟩ (by omega)
  simp only[fw,length_nil,aI,aj,h1,ai,Cy,aiv hn ht];cases h0:(e.op==0)with
  |true=>exact⟨_,rfl⟩
  |false=>
  cases h1:(e.op==1)with
  |true=>exact⟨_,rfl⟩
  |false=>
  cases h2:(e.op==2)with
  |true=>exact⟨_,rfl⟩
  |false=>
  cases h3:(e.op==3)with
  |true=>
   have⟨r,hr⟩:=XP (n:=n) (l:=zs) (s:=e.s) hz hn;have⟨r2,hr2⟩:=VK r;simp only[ax,aj,hr,hr2,ai];exact⟨_,rfl⟩
  |false=>
  cases h9:(e.op==9)with
  |true=>
   have e9:e.op=9:=(by simpa using h9);rw[e9]at ha;have:l.length=1:=(by have h:some (1,true)=some ((e.args.length:Int),true):=ha;simp at h;omega);simp only[ax,aj,H9 (show 0<l.length by omega),M5 (show 0<l.length by omega),ai];exact⟨_,rfl⟩
  |false=>
  cases Jn:(e.op==15)with
  |true=>
   have e15:e.op=15:=(by simpa using Jn);rw[e15]at ha;have:l.length=1:=(by have h:some (1,true)=some ((e.args.length:Int),true):=ha;simp at h;omega);obtain⟨r2,hr2⟩:=VK (l[0]'(by omega)==0);simp only[ax,aj,H9 (show 0<l.length by omega),M5 (show 0<l.length by omega),ai,hr2];exact⟨_,rfl⟩
  |false=>
  cases h16:(e.op==16)with
  |true=>
   have e16:e.op=16:=(by simpa using h16);rw[e16]at ha;have:l.length=3:=(by have h:some (3,true)=some ((e.args.length:Int),true):=ha;simp at h;omega);simp only[ax,aj,H9 (show 0<l.length by omega),M5 (show 0<l.length by omega),adv (show 1<l.length by omega),ahl (show 1<l.length by omega),akH (show 2<l.length by omega),al0 (show 2<l.length by omega),ai];cases (l[0]'(by omega) !=0)<;>exact⟨_,rfl⟩
  |false=>
   have:l.length=2:=(by have:=aiw h0 h1 h2 h3 h9 Jn h16 ha;omega);obtain⟨r,hr⟩:=adu e.op (l[0]'(by omega)) (l[1]'(by omega));simp only[ax,aj,H9 (show 0<l.length by omega),M5 (show 0<l.length by omega),adv (show 1<l.length by omega),ahl (show 1<l.length by omega),ai,hr];exact⟨_,rfl⟩
end
theorem afN{ms:List bC}(h:ms.length<=4000000)(hn:4000002<=n):∃o,iter (jb n ms) n (0,[],[])=some o:=by obtain⟨o,h,_⟩:=eO (step:=jb n ms) (λ i (v:Int×List (ByteArray×Int)×List (ByteArray×Bool))=>∃a b,v=((i:Int),a,b)/\i<=ms.length) (λ _=>True) ms.length (λ k v ⟨_,_,_,h⟩=>h) (by rintro i v ⟨a,b,rfl,hi⟩;by_cases hlt:i<ms.length;left;simp only[jb,show decide ((i:Int)<ms.length)=true from by simp;omega,aj,bf hlt,ai,aQ i];cases (!((gM Gb.ff ms[i].name b).getD false))<;>exact⟨_,rfl,_,_,rfl,hlt⟩;right;simp only[jb,show decide ((i:Int)<ms.length)=false from by simp;omega,ax];exact⟨_,rfl,trivial⟩) n 0 _ ⟨[],[],rfl,Nat.zero_le _⟩ (by omega);exact⟨o,h⟩
structure UV(p:bW):Prop where
 defs:gC p.defs
 tabs:Lw p.tables
theorem X1(a b:ByteArray):Gb.ff a b=true↔a=b:=by unfold Gb.ff;rw[beq_iff_eq,ByteArray.toList_eq,ByteArray.toList_eq];exact⟨λ h=>ByteArray.ext (Array.toList_inj.1 h),λh=>by rw[h]⟩
theorem adw{V:Type}(k k':ByteArray)(v:V)(h:k≠k'):∀l:List (ByteArray×V),gM Gb.ff k (EX Gb.ff k' v l)=gM Gb.ff k l
 |[]=>by
  have:Gb.ff k k'=false:=by rw[Bool.eq_false_iff];exact λe=>h ((X1 _ _).1 e)
  simp[EX,gM,this]
 |p::l=>by
  have e:Gb.ff k k'=false:=by rw[Bool.eq_false_iff];exact λe=>h ((X1 _ _).1 e)
  have ih:=adw k k' v h l;simp[EX];cases c:Gb.ff k' p.1 with
  |true=>
   have:=(X1 _ _).1 c;subst this;simp[gM,e]
  |false=>simp[gM,ih]
theorem KI{p:bW}{ms:List bC}{zs:List ByteArray}(hp:UV p)(hm:ms.length<=4000000)(hz:zs.length<=4000000)(hn:5000003<=n)(hn2:n<=9223372036854775000):∃kn ab,l9 n p ms zs=some (p.defs,p.tables,p.zones,p.rules,p.caps,p.views,p.tI,p.hours,zs,kn,ab)/\ab.length=p.defs.length/\∀w,iter (jb n ms) n (0,[],[])=some w->∀s,(gM Gb.ff s w.2).getD false=true->gM Gb.ff s kn=gM Gb.ff s w.1:=by
 obtain⟨⟨w1,w2⟩,hs1⟩:=afN (n:=n) hm (by omega);have⟨r,hr,hrl,hrr,_⟩:=Rm (n:=n) hp.defs hn;have hl:=hp.defs.len;have hmx:maxLen=9223372036854775807:=rfl;have hmk:ze p.defs.length 8=true:=by simp[ze];omega
 simp only[l9,hs1,ai,Int.le_refl,decide_true,Bool.true_and,show decide (0<=p.defs.length)=true from by simp,hmk,aj,hr];cases hb:(r.2.2 !=0)with
 |true=>
  simp only[aj,Int.toNat_natCast,List.length_replicate,aI];exact⟨_,_,rfl,by simp,λw hw s _=>by cases hw;rfl⟩
 |false=>
  obtain⟨o,h1,kn,ab,rfl,h2,h3⟩:=eO (step:=gU n p zs w2 r) (λ i (v:Int×List (ByteArray×Int)×List Int)=>∃kn ab,v=((i:Int),kn,ab)/\i<=r.1.length/\ab.length=p.defs.length/\∀s,(gM Gb.ff s w2).getD false=true->gM Gb.ff s kn=gM Gb.ff s w1)
   (λ o=>∃kn ab,o=(kn,ab)/\ab.length=p.defs.length/\∀s,(gM Gb.ff s w2).getD false=true->gM Gb.ff s kn=gM Gb.ff s w1) r.1.length (λ k v ⟨_,_,_,h,_⟩=>h) (by
   rintro i v ⟨kn,ab,rfl,hi,hol,hK⟩;by_cases hlt:i<r.1.length;left;have hk:=hrr r.1[i] (getElem_mem hlt);obtain⟨k,hk2⟩:=Int.eq_ofNat_of_zero_le hk.1;have hkd:k<p.defs.length:=(by omega);have hko:k<ab.length:=(by omega);have hbw:=hp.defs.body (getElem_mem hkd);obtain⟨b,hb1,hb2⟩:=QM (n:=n) (by omega) hn2 hbw;simp only[gU,show decide ((i:Int)<r.1.length)=true from by simp;omega,aj,bE hlt,bJ hlt,ai,hk2,bf hkd,hb1,Int.toNat_natCast,bE hkd,bJ hko,aQ i,show(((0:Nat):Int)+k).toNat=k by omega];have step2:∀(IT:List (ByteArray×Int)) out',out'.length=p.defs.length->(∀ s,(gM Gb.ff s w2).getD false=true->gM Gb.ff s IT=gM Gb.ff s w1)->∃GE,((bif (!((gM Gb.ff p.defs[k].name w2).getD false))then(cd out' ((0:Nat)+k:Int)).bind λx5=>some ((EX Gb.ff p.defs[k].name x5 IT),out')else some (IT,out')):Option ((List (ByteArray×Int))×(List Int)))=some (GE,out')/\∀s,(gM Gb.ff s w2).getD false=true->gM Gb.ff s GE=gM Gb.ff s w1:=by
    intro IT out' ho hK;cases hc:(gM Gb.ff p.defs[k].name w2).getD false with
    |false=>
     simp only[Bool.not_false,aj,bJ (show k<out'.length by omega),ai];exact⟨_,rfl,λs hs=>by rw[adw _ _ _ (λ e=>by rw[e,hc]at hs;cases hs)];exact hK s hs⟩
    |true=>exact⟨_,rfl,hK⟩
   cases b with
   |true=>
    obtain⟨v,hv⟩:=VL (n:=n) (a0:=p.defs) (a2:=p.zones) (a3:=p.rules) (a4:=p.caps) (a5:=p.views) (a6:=p.tI) (a7:=p.hours) (by omega) hp.tabs hz n _ kn (hb2 rfl) hbw;simp only[gB,hv,aj,ai];obtain⟨kn2,h2,h3⟩:=step2 kn (ab.set k v) (by simp[hol]) hK;rw[h2];exact⟨_,rfl,_,_,rfl,hlt,by simp[hol],h3⟩
   |false=>
    simp only[ax,ai];have⟨kn2,h2,h3⟩:=step2 kn ab hol hK;rw[h2];exact⟨_,rfl,_,_,rfl,hlt,hol,h3⟩
   right;simp only[gU,show decide ((i:Int)<r.1.length)=false from by simp;omega,ax];exact⟨_,rfl,_,_,rfl,hol,hK⟩) n 0 (0,w1,List.replicate p.defs.length 0) ⟨_,_,rfl,Nat.zero_le _,by simp,λ_ _=>rfl⟩ (by omega)
  simp only[ax,Int.toNat_natCast,h1,ai,h2,aI,aj];exact⟨_,_,rfl,h2,λw hw=>by cases hw;exact h3⟩
theorem all_eq{d:aJ}(h:H8 d)(hn:1001<=n):vQ n d=some (ig d):=by simp[vQ,VH h hn]
theorem XQ(a b:ByteArray)(h:a.size<=4000000):∃r,strings_Contains a b=some r:=by simp only[strings_Contains,Nat.ble_eq_true_of_le h,aj];exact⟨_,rfl⟩
theorem QN c:∃b,D5 c=some b:=eT ⟨_,rfl⟩ ⟨_,rfl⟩
theorem afP c:∃b,OE c=some b:=eT ⟨_,rfl⟩ ⟨_,rfl⟩
theorem aix c:∃b,zN c=some b:=rD (QN c) λ_=>eT ⟨_,rfl⟩ (rD (afP c) λ_=>⟨_,rfl⟩)
theorem adx{s:ByteArray}{i:Nat}(h:i<s.size):∃c,Qh s i=some c:=by simp only[Qh,show decide (0<=i)=true from by simp,aj,Int.toNat_natCast];rw[getElem?_pos s i h];exact⟨_,rfl⟩
theorem aiy{s:ByteArray}{φ:(Int×Unit)->Option Bool}(h:∀c,∃b,φ (c,())=some b)(hs:s.size<=4000000)(hn:4000002<=n):∃r,Ml n s φ=some r:=by
 obtain⟨o,h1,_⟩:=eO (step:=zM s φ) (λ i v=>v=i/\i<=s.size) (λ _=>True) s.size (λ k v h=>h.2) (by
  rintro i v ⟨rfl,hi⟩;by_cases hlt:i<s.size;have⟨c,hc⟩:=adx hlt;have⟨b,hb⟩:=h c;simp only[zM,show decide ((i:Int)<s.size)=true from by simp;omega,aj,hc,ai,hb,aQ i];cases b with
  |true=>exact .inl ⟨_,rfl,rfl,hlt⟩
  |false=>exact .inr ⟨_,rfl,trivial⟩
  simp only[zM,show decide ((i:Int)<s.size)=false from by simp;omega,ax,ai];exact .inr ⟨_,rfl,trivial⟩) n 0 0 ⟨rfl,Nat.zero_le _⟩ (by omega)
 simp only[Ml,h1,ai];exact⟨_,rfl⟩
theorem aiz(s:ByteArray)(hn:4000002<=n):∃b,Mq n s=some b/\(b=true->s.size<=20):=by
 simp only[Mq];cases h0:(ByteArray.toList s==ByteArray.toList (⟨#[]⟩))with
 |true=>exact⟨false,by simp,λh=>(by cases h)⟩
 |false=>
  have hs:0<s.size:=by refine Nat.pos_of_ne_zero λh=>?_;have:s=⟨#[]⟩:=(by obtain⟨⟨l⟩⟩:=s;have:l.length=0:=h;rw[List.eq_nil_of_length_eq_zero this]);rw[this]at h0;simp at h0
  have⟨c,hc⟩:=adx hs;have hc':Qh s 0=some c:=hc;have⟨b,hb⟩:=QN c;simp only[ax,hc',ai,hb];cases b with
  |false=>exact⟨false,by simp,λh=>(by cases h)⟩
  |true=>
   simp only[Bool.not_true,ax,ai];by_cases h20:(s.size:Int)>20;exact⟨false,by simp[h20],λh=>(by cases h)⟩;obtain⟨r,hr⟩:=aiy (n:=n) (s:=s) (φ:=λ(y1:Int×Unit)=>zN y1.1) (λ c=>aix c) (by omega) hn;simp only[h20,decide_false,ax,hr,ai];exact⟨_,rfl,λ_=>by omega⟩
theorem aiA(s:ByteArray)(hn:4000002<=n):∃b,vR n s=some b:=by
 have⟨b,hb,h20⟩:=aiz (n:=n) s hn;simp only[vR,hb,ai];cases b with
 |false=>exact⟨_,rfl⟩
 |true=>
  have hs:=h20 rfl;have hmx:maxLen=9223372036854775807:=rfl;have c1:Ud (⟨#[32]⟩) s=true:=by have:(⟨#[32]⟩:ByteArray).size=1:=rfl;simp[Ud];omega
  have c2:Ud ((⟨#[32]⟩)++s) (⟨#[32]⟩)=true:=by have h1:(⟨#[32]⟩:ByteArray).size=1:=rfl;simp[Ud];omega
  simp only[aj,c1,c2];refine rD (XQ _ _ (Nat.le_of_ble_eq_true ?_)) λ_=>⟨_,rfl⟩
  kernel_rfl
theorem aiB(a b:B7):∃r,rZ a b=some r:=by unfold rZ;rw[tO];exact eT (eT ⟨_,rfl⟩ ⟨_,rfl⟩) ⟨_,rfl⟩
theorem fZ{l:List aA}{φ:(aA×Unit)->Option Bool}(p:aA->Bool)(h:∀x∈l,φ (x,())=some (p x))(hl:l.length<1099511627776)(hn:l.length<n):dF n l φ=some (l.any p):=by have:mG n l φ=some (AB p l):=iG p h hl hn;simp[dF,this,wR]
theorem xH{l:List aA}{φ:(aA×Unit)->Option Bool}(h:∀x∈l,∃b,φ (x,())=some b)(hl:l.length<1099511627776)(hn:l.length<n):dF n l φ=some (l.any λx=>(φ (x,())).getD false):=
 fZ _ (λ x hx=>by have⟨b,hb⟩:=h x hx;rw[hb];rfl) hl hn
def HO(d:aJ):Prop:=∀p∈d.phases,p.gives.length<=1000
theorem afQ{l:List aA}(hl:l.length<=1000000)(hn:4000002<=n):iter (gK n l) n 0=some (.inr false)\/(iter (gK n l) n 0=some (.inl ())/\∀v∈l,okV v=true):=by
 obtain⟨o,h1,h2⟩:=eO (step:=gK n l) (λ i v=>v=i/\i<=l.length/\∀x∈l.take i,okV x=true) (λ o=>o=.inr false\/(o=.inl ()/\∀v∈l,okV v=true)) l.length (λ k v h=>h.2.1) (by
  rintro i v ⟨rfl,hi,hall⟩;by_cases hlt:i<l.length;simp only[gK,show decide ((i:Int)<l.length)=true from by simp;omega,aj,bE hlt,bJ hlt,ai,kI,aQ i];cases hv:okV l[i]with
  |false=>exact .inr ⟨_,by simp only[Bool.not_false,aj,ai];rfl,.inl rfl⟩
  |true=>
   have hsub:(sub l 0 i).length=i:=(by simp[sub];omega);have hc:=xH (n:=n) (l:=sub l 0 i) (φ:=λ(y1:aA×Unit)=>iJ y1.1 l[i]) (λ x _=>rD (aiB _ _) λ_=>⟨_,rfl⟩) (by omega) (by omega);simp[xO (show 0<=0 by omega) (show (0:Int)<=i by omega) (show (i:Int)<=l.length by omega),Ow hsub,hc];cases ((sub l 0 i).any λx=>((λ (y1:aA×Unit)=>iJ y1.1 l[i]) (x,())).getD false)with
   |true=>exact .inr ⟨_,rfl,.inl rfl⟩
   |false=>
    refine .inl ⟨_,rfl,rfl,hlt,λx hx=>?_⟩;rw[List.take_add_one,dD hlt,bO]at hx;rcases hx with hx|hx;exact hall x hx;simp at hx;subst hx;exact hv
  refine .inr ⟨.inl (),?_,.inr ⟨rfl,λv hv=>hall v (by rw[take_of_length_le (by omega)];exact hv)⟩⟩;simp only[gK,show decide ((i:Int)<l.length)=false from by simp;omega,ax]) n 0 0 ⟨rfl,Nat.zero_le _,by simp⟩ (by omega)
 rcases h2 with rfl|⟨rfl,h2⟩;exact .inl h1;exact .inr ⟨h1,h2⟩
theorem afR{p:eD}(hp:p.gives.length<=1000)(hn:4000002<=n):iter (kX n p) n (0,[])=some (.inl ())\/iter (kX n p) n (0,[])=some (.inr (.inr (.inr false))):=by
 obtain⟨o,h1,h2⟩:=eO (step:=kX n p) (λ i (v:Int×List (ByteArray×Bool))=>∃m,v=((i:Int),m)/\i<=p.gives.length) (λ o=>o=.inl ()\/o=.inr (.inr (.inr false))) p.gives.length (λ k v ⟨_,_,h⟩=>h) (by
  rintro i v ⟨m,rfl,hi⟩;by_cases hlt:i<p.gives.length;have key:∃b,((bif ((gM Gb.ff p.gives[i].name m).getD false)then some true else(vR n p.gives[i].name).bind λr4=>(bif (!r4)then some true else(bif (decide (p.gives[i].n<0))then some true else some (decide (p.gives[i].n>1073741824))))):Option (Bool))=some b:=
   eT ⟨_,rfl⟩ (rD (aiA _ hn) λ_=>eT ⟨_,rfl⟩ (eT ⟨_,rfl⟩ ⟨_,rfl⟩))
  obtain⟨b,hb⟩:=key;simp only[kX,show decide ((i:Int)<p.gives.length)=true from by simp;omega,aj,bf hlt,ai,hb,aQ i];cases b with
  |true=>exact .inr ⟨_,rfl,.inr rfl⟩
  |false=>exact .inl ⟨_,rfl,_,rfl,hlt⟩
  simp only[kX,show decide ((i:Int)<p.gives.length)=false from by simp;omega,ax];exact .inr ⟨_,rfl,.inl rfl⟩) n 0 _ ⟨[],rfl,Nat.zero_le _⟩ (by omega)
 rcases h2 with rfl|rfl;exact .inl h1;exact .inr h1
theorem afS{d:aJ}(hd:H8 d)(hg:HO d)(hn:4000002<=n):iter (gL n d) n 0=some (.inl ())\/iter (gL n d) n 0=some (.inr false):=by
 have hd1:=hd.1;obtain⟨o,h1,h2⟩:=eO (step:=gL n d) (λ i v=>v=i/\i<=d.phases.length) (λ o=>o=.inl ()\/o=.inr false) d.phases.length (λ k v h=>h.2) (by
  rintro i v ⟨rfl,hi⟩;by_cases hlt:i<d.phases.length;simp only[gL,show decide ((i:Int)<d.phases.length)=true from by simp;omega,aj,bf hlt,ai,aQ i];rcases afR (n:=n) (hg _ (getElem_mem hlt)) hn with h|h;simp[h];cases decide ((d.phases[i].gives.length:Int)>30)with
  |true=>exact .inr ⟨_,rfl,.inr rfl⟩
  |false=>exact .inl ⟨_,rfl,rfl,hlt⟩
  simp only[h,iD];exact .inr ⟨_,rfl,.inr rfl⟩;simp only[gL,show decide ((i:Int)<d.phases.length)=false from by simp;omega,ax];exact .inr ⟨_,rfl,.inl rfl⟩) n 0 0 ⟨rfl,Nat.zero_le _⟩ (by omega)
 rcases h2 with rfl|rfl;exact .inl h1;exact .inr h1
theorem Jf{d:aJ}(hd:H8 d):(ig d).length<=1000000:=by have:=ev hd.2;have:=hd.1;unfold ig;omega
theorem ahm{d:aJ}(hd:H8 d)(hg:HO d)(hn:4000002<=n):∃b,nC n d=some b/\(b=true->∀v∈ig d,okV v=true):=by
 simp only[nC,all_eq hd (show 1001<=n by omega),ai];have key:∀c1 c2 c3 c4 c5 c6:Bool,∃b,((bif c1 then some true else(bif c2 then some true else(bif c3 then some true else(bif c4 then some true else(bif c5 then some true else some c6))))):Option Bool)=some b:=by intro c1 c2 c3 c4 c5 c6;exact eT ⟨_,rfl⟩ (eT ⟨_,rfl⟩ (eT ⟨_,rfl⟩ (eT ⟨_,rfl⟩ (eT ⟨_,rfl⟩ ⟨_,rfl⟩))))
 have⟨b,hb⟩:=key (decide (d.lot<0)) (decide (d.lot>1073741824)) (decide ((d.phases.length:Int)<1)) (decide ((d.phases.length:Int)>8)) (decide (((ig d).length:Int)<1)) (decide (((ig d).length:Int)>40));rw[hb];cases b with
 |true=>exact⟨false,rfl,λh=>(by cases h)⟩
 |false=>
  simp only[ai,ax];rcases afQ (n:=n) (Jf hd) hn with h|⟨h,hall⟩;simp only[h,iD];exact⟨false,rfl,λh=>(by cases h)⟩;simp only[h,fO];rcases afS (n:=n) hd hg hn with h2|h2;simp only[h2,fO];exact⟨true,rfl,λ_=>hall⟩;simp only[h2,iD];exact⟨false,rfl,λh=>(by cases h)⟩
theorem Ez{l:List fE}{φ:(fE×Unit)->Option Bool}(p:fE->Bool)(h:∀x∈l,φ (x,())=some (p x))(hl:l.length<1099511627776)(hn:l.length<n):gu n l φ=some (l.any p):=by have:pF n l φ=some (AB p l):=iG p h hl hn;simp[gu,this,wR]
theorem akJ{lot:dO}{l:List aA}(ha:lot.area.length<=900)(hv:∀v∈l,okV v=true)(hl:l.length<=1000000)(hn:4000002<=n):iter (fP n lot l) n 0=some (.inl ())\/iter (fP n lot l) n 0=some (.inr false):=by
 obtain⟨o,h1,h2⟩:=eO (step:=fP n lot l) (λ i v=>v=i/\i<=l.length) (λ o=>o=.inl ()\/o=.inr false) l.length (λ k v h=>h.2) (by
  rintro i v ⟨rfl,hi⟩;by_cases hlt:i<l.length;have hb:=MX (hv _ (getElem_mem hlt));have hcl:=MS (keep:=λp q=>p&&q) lot.area [bH l[i]];have hc:=Ep (n:=n) (a:=lot.area) (b:=[bH l[i]]) (by omega) (by simp) (by omega) (by simp;omega) (by omega);have hA:=Es (n:=n) (a:=(gJ (λ p q=>p&&q) lot.area [bH l[i]]).1) (by omega) (by omega);have hr:=Ct hb;simp[bH]at hc hA hr;simp only[fP,show decide ((i:Int)<l.length)=true from by simp;omega,aj,bE hlt,bJ hlt,ai,show ∀r:au,sub [r] 0 1=[r]from λ_=>rfl,List.length_singleton,aI,hc,hA,hr,aQ i];have key:∀c x:Bool,∃b,((bif c then some true else some x):Option Bool)=some b:=λc x=>eT ⟨_,rfl⟩ ⟨_,rfl⟩;obtain⟨b,hb2⟩:=key ((gJ (λ p q=>p&&q) lot.area [⟨l[i].aE,l[i].bp,l[i].az,l[i].bo⟩]).2 !=0) (decide ((bif cm (gJ (λ p q=>p&&q) lot.area [⟨l[i].aE,l[i].bp,l[i].az,l[i].bo⟩]).1 then Fb (gJ (λ p q=>p&&q) lot.area [⟨l[i].aE,l[i].bp,l[i].az,l[i].bo⟩]).1 else 0)<yL ⟨l[i].aE,l[i].bp,l[i].az,l[i].bo⟩));rw[hb2];cases b with
  |true=>exact .inr ⟨_,rfl,.inr rfl⟩
  |false=>exact .inl ⟨_,rfl,rfl,hlt⟩
  simp only[fP,show decide ((i:Int)<l.length)=false from by simp;omega,ax];exact .inr ⟨_,rfl,.inl rfl⟩) n 0 0 ⟨rfl,Nat.zero_le _⟩ (by omega)
 rcases h2 with rfl|rfl;exact .inl h1;exact .inr h1
theorem akK{p:bW}{ph:eD}(hc:p.caps.length<=4000000)(hp:ph.gives.length<=1000)(hn:4000002<=n):iter (fQ n p ph) n 0=some (.inl ())\/iter (fQ n p ph) n 0=some (.inr (.inr (.inr false))):=by
 obtain⟨o,h1,h2⟩:=eO (step:=fQ n p ph) (λ i v=>v=i/\i<=ph.gives.length) (λ o=>o=.inl ()\/o=.inr (.inr (.inr false))) ph.gives.length (λ k v h=>h.2) (by
  rintro i v ⟨rfl,hi⟩;by_cases hlt:i<ph.gives.length;simp only[fQ,show decide ((i:Int)<ph.gives.length)=true from by simp;omega,aj,bf hlt,ai,Ez (n:=n) (l:=p.caps) (φ:=λ(y1:fE×Unit)=>pE y1.1 ph.gives[i]) (λ c=>ByteArray.toList c.name==ByteArray.toList ph.gives[i].name) (λ _ _=>rfl) (by omega) (by omega),aQ i];cases (p.caps.any λc=>ByteArray.toList c.name==ByteArray.toList ph.gives[i].name)with
  |false=>exact .inr ⟨_,rfl,.inr rfl⟩
  |true=>exact .inl ⟨_,rfl,rfl,hlt⟩
  simp only[fQ,show decide ((i:Int)<ph.gives.length)=false from by simp;omega,ax];exact .inr ⟨_,rfl,.inl rfl⟩) n 0 0 ⟨rfl,Nat.zero_le _⟩ (by omega)
 rcases h2 with rfl|rfl;exact .inl h1;exact .inr h1
theorem akL{p:bW}{d:aJ}(hc:p.caps.length<=4000000)(hd:H8 d)(hg:HO d)(hn:4000002<=n):iter (fT n p d) n 0=some (.inl ())\/iter (fT n p d) n 0=some (.inr false):=by have hd1:=hd.1;obtain⟨o,h1,h2⟩:=eO (step:=fT n p d) (λ i v=>v=i/\i<=d.phases.length) (λ o=>o=.inl ()\/o=.inr false) d.phases.length (λ k v h=>h.2) (by rintro i v ⟨rfl,hi⟩;by_cases hlt:i<d.phases.length;simp only[fT,show decide ((i:Int)<d.phases.length)=true from by simp;omega,aj,bf hlt,ai,aQ i];rcases akK (n:=n) hc (hg _ (getElem_mem hlt)) hn with h|h;simp only[h,fO];exact .inl ⟨_,rfl,rfl,hlt⟩;simp only[h,iD];exact .inr ⟨_,rfl,.inr rfl⟩;simp only[fT,show decide ((i:Int)<d.phases.length)=false from by simp;omega,ax];exact .inr ⟨_,rfl,.inl rfl⟩) n 0 0 ⟨rfl,Nat.zero_le _⟩ (by omega);rcases h2 with rfl|rfl;exact .inl h1;exact .inr h1
theorem aiC{p:bW}{lot:dO}{d:aJ}(hc:p.caps.length<=4000000)(ha:lot.area.length<=900)(hd:H8 d)(hg:HO d)(hn:4000002<=n):∃b,iq n p lot d=some b/\(b=true->∀v∈ig d,okV v=true):=by
 have⟨b,hb,hv⟩:=ahm (n:=n) hd hg hn;simp only[iq,hb,ai];cases b with
 |false=>exact⟨false,by simp,λh=>(by cases h)⟩
 |true=>
  simp only[Bool.not_true,ax,iM (n:=n) (l:=lot.area) (by omega) (by omega) (by omega),ai];cases (lot.id !=d.lot)with
  |true=>exact⟨false,by simp,λh=>(by cases h)⟩
  |false=>
   cases cm lot.area with
   |false=>exact⟨false,by simp,λh=>(by cases h)⟩
   |true=>
    simp only[Bool.not_true,ax,ai,all_eq hd (show 1001<=n by omega)];rcases akJ (n:=n) ha (hv rfl) (Jf hd) hn with h|h;simp only[h,fO];rcases akL (n:=n) hc hd hg hn with h2|h2;simp only[h2,fO];exact⟨true,rfl,λ_=>hv rfl⟩;simp only[h2,iD];exact⟨false,rfl,λh=>(by cases h)⟩;simp only[h,iD];exact⟨false,rfl,λh=>(by cases h)⟩
theorem al1{p:bW}{ms:List bC}{zs:List ByteArray}{e:bD}(hp:UV p)(hm:ms.length<=4000000)(hz:zs.length<=4000000)(he:(toE e).wt<=4000000)(hn:5000003<=n)(hn2:n<=9223372036854775000):∃v,vo n p ms zs e=some v:=by
 obtain⟨b,hb,hv⟩:=QM (n:=n) (by omega) hn2 he;simp[vo,Cy,hb];cases b with
 |false=>exact⟨_,rfl⟩
 |true=>
  have⟨kn,ab,h1,_⟩:=KI (n:=n) hp hm hz hn hn2;obtain⟨v,h2⟩:=VL (n:=n) (a0:=p.defs) (a2:=p.zones) (a3:=p.rules) (a4:=p.caps) (a5:=p.views) (a6:=p.tI) (a7:=p.hours) (by omega) hp.tabs hz n e kn (hv rfl) he;simp only[Bool.not_true,ax,h1,ai,gB,h2];exact⟨_,rfl⟩
section
variable {n:Nat} {d:List fI} {ts:List bS} {z z':List dh} {r r':List aL} {c c':List fE} {v v':List fD} {su qt:List bU} {h h':Int} {zs:List ByteArray}
theorem Ia:∀(m:Nat)(e:bD)(kn:List (ByteArray×Int)),bR n m d ts z r c v su h zs e kn=bR n m d ts z' r' c' v' qt h' zs e kn
 | 0,_,_=>rfl
 |m+1,e,kn=>by
  have ih:=Ia m;have hs:eX n (bR n m) d ts z r c v su h zs e=eX n (bR n m) d ts z' r' c' v' qt h' zs e:=by funext ⟨v1,v2,v3⟩;simp only[eX,ih]
  have hr:∀w,jC n d ts z r c v su h zs e w=jC n d ts z' r' c' v' qt h' zs e w:=λ_=>rfl;show fw n (bR n m) d ts z r c v su h zs e kn=fw n (bR n m) d ts z' r' c' v' qt h' zs e kn;simp only[fw,hs,Cy,hr]
theorem afT{ms:List bC}:(l9 n (bW.mk d ts z r c v su h) ms zs).map (λ q=>q.2.2.2.2.2.2.2.2.2)=(l9 n (bW.mk d ts z' r' c' v' qt h') ms zs).map (λ q=>q.2.2.2.2.2.2.2.2.2):=by
 have hs:∀w2 r1,gU n (bW.mk d ts z r c v su h) zs w2 r1=gU n (bW.mk d ts z' r' c' v' qt h') zs w2 r1:=by intro w2 r1;funext ⟨v6,v7,v8⟩;have hv:∀e kn,gB n d ts z r c v su h zs e kn=gB n d ts z' r' c' v' qt h' zs e kn:=λe kn=>Ia n e kn;simp only[gU,hv]
 have ho:nI n (bW.mk d ts z r c v su h)=nI n (bW.mk d ts z' r' c' v' qt h'):=rfl;simp only[l9,hs,ho];cases iter (jb n ms) n (0,([]:(List (ByteArray×Int))),([]:(List (ByteArray×Bool))))with
 |none=>rfl
 |some w=>
  obtain⟨w1,w2⟩:=w;simp only[ai];cases (decide ((d.length:Int)<=d.length)&&(decide (0<=(d.length:Int))&&ze d.length 8))with
  |false=>rfl
  |true=>
   simp only[aj];cases nI n (bW.mk d ts z' r' c' v' qt h')with
   |none=>rfl
   |some r1=>
    simp only[ai];cases (r1.2.2 !=0)with
    |true=>
     simp only[aj];cases be ((d.length:Int).toNat) (List.replicate (d.length:Int).toNat (0:Int)).length<;>rfl
    |false=>
     simp only[ax];cases iter (gU n (bW.mk d ts z' r' c' v' qt h') zs w2 r1) n (0,w1,(List.replicate (d.length:Int).toNat 0))with
     |none=>rfl
     |some q=>
      obtain⟨w3,w4⟩:=q;simp only[ai];cases be ((d.length:Int).toNat) w4.length<;>rfl
theorem VN{ms:List bC}{e:bD}(hp:gC d)(ht:Lw ts)(hm:ms.length<=4000000)(hz:zs.length<=4000000)(hn:5000003<=n)(hn2:n<=9223372036854775000):vo n (bW.mk d ts z r c v su h) ms zs e=vo n (bW.mk d ts z' r' c' v' qt h') ms zs e:=by have⟨kn,ab,h1,_⟩:=KI (n:=n) (p:=bW.mk d ts z r c v su h) ⟨hp,ht⟩ hm hz hn hn2;have⟨kn2,out2,h2,_⟩:=KI (n:=n) (p:=bW.mk d ts z' r' c' v' qt h') ⟨hp,ht⟩ hm hz hn hn2;have h3:=afT (n:=n) (d:=d) (ts:=ts) (z:=z) (z':=z') (r:=r) (r':=r') (c:=c) (c':=c') (v:=v) (v':=v') (su:=su) (qt:=qt) (h:=h) (h':=h') (zs:=zs) (ms:=ms);rw[h1,h2]at h3;simp only[Option.map_some,bP,Prod.mk.injEq]at h3;obtain⟨rfl,rfl⟩:=h3;simp only[vo,h1,h2,ai,gB,Ia (z:=z) (z':=z') (r:=r) (r':=r') (c:=c) (c':=c') (v:=v) (v':=v') (su:=su) (qt:=qt) (h:=h) (h':=h')]
end
theorem Rn{b:au}{l:List dI}{s:List gD}(ha:∀c∈s,c.area.length<=200)(hs:s.length<=1000)(hl:l.length<=1000)(hn:2000<=n):
 xq n b l s=some (Af b l&&(uU s&&!(s.any λc=>decide (xy b l c.area<c.z1)))):=by
 unfold xq;rw[VF b l hl hn];simp;cases hv:Af b l with
 |false=>simp
 |true=>
  have⟨v1,v2⟩:=(adk b l).1 hv;simp[QI (n:=n) (s:=s) (λ x hx=>by have:=ha x hx;omega) (by omega)];cases hr:uU s with
  |false=>simp
  |true=>
   have⟨_,sok,_⟩:=(VG s).1 hr;simp;rw[rC (λ c=>decide (xy b l c.area<c.z1)) (λ c hc=>by have:=ha c hc;show qI n c b l=_;unfold qI;rw[Rl v1 v2 (ji (sok c hc).rt).1 (by omega) hl hn];rfl) (by omega) (by omega)];simp
def mh(v:aA):List gD:=[⟨v.c9,v.cR,[bH v]⟩]
theorem ady(v:aA):xg v=some (mh v):=rfl
def xI(b:au)(p:dI)(v:aA):Bool:=Af b [p]&&(uU (mh v)&&!((mh v).any λc=>decide (xy b [p] c.area<c.z1)))
def KJ(r:aL):dI:=dI.mk r.ie r.ii r.i8 r.i9
theorem aa3(v:aA)(b:au)(r:aL)(hn:2000<=n):jV n v b r=some (!xI b (KJ r) v):=by have h:=Rn (n:=n) (b:=b) (l:=[KJ r]) (s:=mh v) (by simp[mh]) (by simp[mh]) (by simp) hn;unfold KJ at h;have hl:(mh v).length=1:=rfl;simp[jV,ady,show ∀x:dI,sub [x] 0 1=[x]from λ_=>rfl,h,xI];rfl
def Zp(r:aL)(v:aA):Bool:=bits .and .i64 r.uses (i64.wrap (1*2 ^ v.use.toNat))==0
theorem aa4{v:aA}(h:okV v=true)(r:aL):jW v r=some (Zp r v):=by
 have hu:0<=v.use/\v.use<6:=by simp[okV]at h;omega
 have hb:i64.bits=64:=rfl;simp[jW,Zp,show(decide (0<=v.use)&&decide (v.use<=i64.bits))=true from by simp;omega]
def KL(lot:Int)(r:aL)(v:aA)(b:bF):Bool:=(dn b (lZ.mk [] [] [] [] [] [] [] 0 [] [] [] [] [] 0 0 [] [] lot [] [] []) v r).getD false
theorem adz{b:bF}{s:lZ}{v:aA}{r:aL}:dn b s v r=some (KL s.d5 r v b):=by
 have key:∃x,dn b (lZ.mk [] [] [] [] [] [] [] 0 [] [] [] [] [] 0 0 [] [] s.d5 [] [] []) v r=some x:=by simp only[dn,jc,adh,ai];refine rD (eT ⟨_,rfl⟩ (eT ⟨_,rfl⟩ (eT ⟨_,rfl⟩ ⟨_,rfl⟩))) λ_=>eT ⟨_,rfl⟩ (rD (eT (eT ⟨_,rfl⟩ (eT ⟨_,rfl⟩ ⟨_,rfl⟩)) (eT ⟨_,rfl⟩ ⟨_,rfl⟩)) λ_=>eT ⟨_,rfl⟩ ⟨_,rfl⟩)
 have e:dn b s v r=dn b (lZ.mk [] [] [] [] [] [] [] 0 [] [] [] [] [] 0 0 [] [] s.d5 [] [] []) v r:=rfl;obtain⟨x,hx⟩:=key;rw[e,KL,hx];rfl
theorem zi{l:List bF}{φ:(bF×Unit)->Option Bool}(p:bF->Bool)(h:∀x∈l,φ (x,())=some (p x))(hl:l.length<1099511627776)(hn:l.length<n):jX n l φ=some (l.any p):=by have:qc n l φ=some (AB p l):=iG p h hl hn;simp[jX,this,wR]
def EA(built:List bF)(lot:Int)(r:aL)(v:aA):Bool:=built.any (KL lot r v)
theorem aa5{s:lZ}{v:aA}{r:aL}(hb:s.fW.length<=1000)(hn:2000<=n):jY n v s r=some (EA s.fW s.d5 r v):=by simp[jY,qR,zi (n:=n) (l:=s.fW) (φ:=λ(y1:bF×Unit)=>dn y1.1 s v r) (KL s.d5 r v) (λ x _=>adz) (by omega) (by omega),EA]
def ia(r:aL):bD:=bD.mk r.kx r.lR r.lP r.i7 r.fX
def fp(t:dm):bW:=bW.mk t.cj t.bx t.bk [] t.bu t.cg t.cz t.ci
structure M6(t:dm):Prop where
 lots:∀l∈t.land,Cd l
 land:t.land.length<=1000
 vx:t.b8.length<=900/\∀e∈t.b8,e.area.length<=900
 built:t.built.length<=1000
 zones:t.bk.length<=100
 caps:t.bu.length<=4000000
 rules:t.bj.length<=100
 rule:∀r∈t.bj,KG r/\(toE (ia r)).wt<=4000000
 plan:UV (fp t)
def O7(d:aJ):Prop:=H8 d/\HO d
def O8(n:Nat):Prop:=5000003<=n/\n<=9223372036854775000
def oo(t:dm)(lot:dO):List ByteArray:=vf t.bk lot.area
def qu(t:dm)(lot:dO)(d:aJ):lZ:=lZ.mk t.cj t.bx t.bk t.bj t.bu t.cg t.cz t.ci t.land t.b8 t.windows t.built t.base lot.id lot.owner lot.area lot.from_ d.lot d.phases (ig d) (oo t lot)
theorem akM{d:aJ}(h:H8 d)(hn:1001<=n):sG n d=some (ig d):=by obtain⟨h1,h2⟩:=h;unfold sG;have key:=Cv (step:=oD d) (λ i=>(i,(d.phases.take i).flatMap (·.cp))) (s:=(0,[])) d.phases.length (ig d) rfl (λ i hi=>by have hl:=ev (l:=d.phases.take i) λp hp=>h2 p (List.mem_of_mem_take hp);rw[length_take]at hl;have hv:=h2 _ (getElem_mem hi);generalize hL:(d.phases.take i).flatMap (·.cp)=L at hl;have hap:bQ L.length L.length d.phases[i].cp.length d.phases[i].cp.length 72=true:=dP (by omega) (by simp[maxLen];omega);simp only[oD,cu hi,aj,bf hi,ai,hap,eu,aI,aQ i];rw[jr hi,List.flatMap_append,hL];simp) (by simp[oD,ig]) n (by omega);have hz:be 0 ([]:List aA).length=true:=rfl;simp[key]
def VO(n:Nat)(t:dm)(d:aJ):Bool:=(iq n (fp t) (fq t.land d.lot).1 d).getD false
def uV(n:Nat)(t:dm)(d:aJ):Int:=bif(fq t.land d.lot).2 then(bif VO n t d then 0 else 1)else 4
def an4:lZ:=lZ.mk ([]) ([]) ([]) ([]) ([]) ([]) ([]) 0 ([]) ([]) ([]) ([]) ([]) 0 0 ([]) ([]) 0 ([]) ([]) ([])
theorem look_eq{t:dm}{d:aJ}(ht:M6 t)(hd:O7 d)(hn:O8 n):vX n t d=some (bif uV n t d==0 then qu t (fq t.land d.lot).1 d else an4,uV n t d)/\(uV n t d=0->∀v∈ig d,okV v=true):=by
 obtain⟨hn1,hn2⟩:=hn;have hl:=ht.land;have e1:Mk n t.land d.lot=some (fq t.land d.lot):=air ht.lots (by omega) (by omega);have hw:=Cu ht.lots d.lot;obtain⟨b,hb,hv⟩:=aiC (n:=n) (p:=fp t) (lot:=(fq t.land d.lot).1) (d:=d) ht.caps hw.1 hd.1 hd.2 (by omega);have e2:iq n (bW.mk t.cj t.bx t.bk t.bj t.bu t.cg t.cz t.ci) (fq t.land d.lot).1 d=some b:=hb;have e3:Ck n (bW.mk t.cj t.bx t.bk t.bj t.bu t.cg t.cz t.ci) (fq t.land d.lot).1.area=some (vf t.bk (fq t.land d.lot).1.area):=aaV _ _ ht.zones hw.1 (by omega);have e4:VO n t d=b:=by unfold VO;rw[hb];rfl
 simp[vX,e1,e2,e3,akM hd.1 (show 1001<=n by omega),uV,e4];cases (fq t.land d.lot).2 with
 |false=>exact⟨rfl,λh=>absurd (show (4:Int)=0 from h) (by decide)⟩
 |true=>
  cases b with
  |false=>exact⟨rfl,λh=>absurd (show (1:Int)=0 from h) (by decide)⟩
  |true=>exact⟨rfl,λ_=>hv rfl⟩
def H4(n:Nat)(t:dm)(lot:dO)(d:aJ)(r:aL):Bool:=((kE n (fp t) lot d).bind λms=>vo n (fp t) ms (oo t lot) (ia r)).getD 1==0
def KM(n:Nat)(t:dm)(lot:dO)(d:aJ)(r:aL):Bool:=
 bif r.kind==0 then H4 n t lot d r else bif r.kind==1 then(ig d).any (λ v=>!xI (tV lot.area).1 (KJ r) v)else bif r.kind==2 then(ig d).any (Zp r)else bif r.kind==3 then(ig d).any (EA t.built d.lot r)else false
theorem KN{t:dm}(ht:M6 t)(lot:dO):(oo t lot).length<=100:=Nat.le_trans (alX _ _) ht.zones
theorem Zq{t:dm}{lot:dO}{d:aJ}{r:aL}(ht:M6 t)(hl:lot.area.length<=900)(hd:O7 d)(hv:∀v∈ig d,okV v=true)(hr:(toE (ia r)).wt<=4000000)(hn:O8 n):jH n (qu t lot d) r=some (KM n t lot d r):=by
 obtain⟨hn1,hn2⟩:=hn;have hvl:=Jf hd.1;have hz:=KN ht lot;simp only[jH,gV,KM];cases (r.kind==0)with
 |true=>
  have htb:=ht.plan.tabs;obtain⟨e1,e2,e3,e4,e5,e6,e7,e8,hOf⟩:=an2 (n:=n) (p:=fp t) (lot:=lot) (d:=d) ⟨by have:=htb.1;omega,by have:=htb.1;omega,λx hx=>by have:=htb.2 x hx;omega⟩ hl hd.1 (by omega);have h1:=hOf t.bj;have h2:=hOf [];have h2':kE n (fp t) lot d=_:=h2;have h1':kE n (bW.mk t.cj t.bx t.bk t.bj t.bu t.cg t.cz t.ci) (dO.mk lot.id lot.owner lot.area lot.from_) (aJ.mk d.lot d.phases)=_:=h1;obtain⟨v,hE⟩:=al1 (n:=n) (p:=fp t) (ms:=[⟨⟨#[97,114,101,97]⟩,e1⟩,⟨⟨#[99,111,118,101,114]⟩,e2⟩,⟨⟨#[102,108,111,111,114]⟩,e3⟩,⟨⟨#[102,108,111,111,114,115]⟩,e4⟩,⟨⟨#[104,101,105,103,104,116]⟩,e5⟩,⟨⟨#[104,111,109,101,115]⟩,e6⟩,⟨⟨#[114,117,110,111,102,102]⟩,e7⟩,⟨Cx,tX (nU lot) (dZ d)⟩,⟨⟨#[116,114,97,102,102,105,99]⟩,e8⟩]) (zs:=oo t lot) (e:=ia r) ht.plan (by simp) (by omega) hr hn1 hn2;have hE':=(VN (n:=n) (d:=t.cj) (ts:=t.bx) (z:=t.bk) (r:=t.bj) (r':=[]) (c:=t.bu) (v:=t.cg) (su:=t.cz) (h:=t.ci) (zs:=oo t lot) (ms:=[⟨⟨#[97,114,101,97]⟩,e1⟩,⟨⟨#[99,111,118,101,114]⟩,e2⟩,⟨⟨#[102,108,111,111,114]⟩,e3⟩,⟨⟨#[102,108,111,111,114,115]⟩,e4⟩,⟨⟨#[104,101,105,103,104,116]⟩,e5⟩,⟨⟨#[104,111,109,101,115]⟩,e6⟩,⟨⟨#[114,117,110,111,102,102]⟩,e7⟩,⟨Cx,tX (nU lot) (dZ d)⟩,⟨⟨#[116,114,97,102,102,105,99]⟩,e8⟩]) (e:=ia r) ht.plan.defs ht.plan.tabs (by simp) (by omega) hn1 hn2).trans hE;unfold ia at hE';simp[qu,h1',hE',H4,h2',hE]
 |false=>
  cases (r.kind==1)with
  |true=>
   simp only[aj,ax,show(qu t lot d).kf=lot.area from rfl,show(qu t lot d).cp=ig d from rfl,aaY (n:=n) lot.area hl (by omega),ai];rw[fZ (λ v=>!xI (tV lot.area).1 (KJ r) v) (λ v _=>aa3 v _ r (by omega)) (by omega) (by omega)];rfl
  |false=>
   cases (r.kind==2)with
   |true=>
    simp only[aj,ax,show(qu t lot d).cp=ig d from rfl];rw[fZ (Zp r) (λ v hm=>aa4 (hv v hm) r) (by omega) (by omega)];rfl
   |false=>
    cases (r.kind==3)with
    |true=>
     simp only[aj,ax,show(qu t lot d).cp=ig d from rfl];rw[fZ (EA t.built d.lot r) (λ v _=>aa5 (s:=qu t lot d) ht.built (by omega)) (by omega) (by omega)];rfl
    |false=>rfl
def addN(ab:List ByteArray)(name:ByteArray)(bad:Bool):List ByteArray:=bif bad&&!(ab.any (ff name))then ab++[name]else ab
theorem VP ab (name:ByteArray) bad:(addN ab name bad).length<=ab.length+1:=by unfold addN;cases (bad&&!(ab.any (ff name)))<;>simp
theorem adB{name:ByteArray}{bad:Bool}{ab:List ByteArray}(hl:ab.length<=1000)(hn:2000<=n):jI n name bad ab=some (addN ab name bad):=by
 have hmx:maxLen=9223372036854775807:=rfl;have hap:bQ ab.length ab.length (sub [name] 0 1).length 1 16=true:=by simp[bQ,sub];omega
 simp[jI,uE (n:=n) (l:=ab) (a:=name) (by omega) (by omega),addN,hap];cases bad with
 |false=>rfl
 |true=>cases (ab.any (ff name))<;>rfl
def VQ(t:dm)(d:aJ):Bool:=(ig d).any λv=>!QJ t.b8 d.lot (mh v)
def Zr:ByteArray:=⟨#[101,97,115,101,109,101,110,116]⟩
def EB(n:Nat)(t:dm)(lot:dO)(d:aJ)(l:List aL):List ByteArray:=l.foldl (λ ab r=>addN ab r.name (KM n t lot d r)) []
theorem AU(f:aL->Bool):∀(l:List aL) ab,(l.foldl (λ ab r=>addN ab r.name (f r)) ab).length<=ab.length+l.length
 |[],ab=>by simp
 |r::l,ab=>by have h1:=AU f l (addN ab r.name (f r));have h2:=VP ab r.name (f r);rw[foldl_cons,fG];omega
def applied(t:dm)(lot:dO)(day:Int):List aL:=t.bj.filter (qw (oo t lot) day)
def kJ(t:dm)(d:aJ):dO:=(fq t.land d.lot).1
def oG(n:Nat)(t:dm)(d:aJ)(day:Int):List ByteArray:=bif uV n t d==0 then addN (EB n t (kJ t d) d (applied t (kJ t d) day)) Zr (VQ t d)else []
theorem Cz{t:dm}{d:aJ} day (ht:M6 t) (hd:O7 d) (hn:O8 n):j4 n t d day=some (oG n t d day,uV n t d):=by
 obtain⟨hk,hv⟩:=look_eq (n:=n) ht hd hn;have hn1:=hn.1;have hvl:=Jf hd.1;simp[j4,hk,oG];by_cases h0:uV n t d=0;have AG:(uV n t d==0)=true:=by simp[h0]
 have Sx:(uV n t d !=0)=false:=by simp[h0]
 have hw:=Cu ht.lots d.lot;have hz:=KN ht (kJ t d);have hA:sJ n (bW.mk t.cj t.bx t.bk t.bj t.bu t.cg t.cz t.ci) (oo t (kJ t d)) day=some ((O5 t.bj (oo t (kJ t d)) day).map λ(i:Nat)=>(i:Int)):=Rj _ _ _ (λ r hr=>(ht.rule r hr).1) ht.rules hz (by omega);have hal:(O5 t.bj (oo t (kJ t d)) day).length<=100:=Nat.le_trans (length_filter_le _ _) (by rw[List.length_range];exact ht.rules);have hpick:(O5 t.bj (oo t (kJ t d)) day).filterMap (λ i=>t.bj[i]?)=applied t (kJ t d) day:=QK (qw (oo t (kJ t d)) day) t.bj;have hloop:∀A:List Nat,A.length<=100->(∀ i∈A,i<t.bj.length)->iter (mR n t (qu t (kJ t d) d,uV n t d) (A.map λ(i:Nat)=>i)) n (0,[])=some (EB n t (kJ t d) d (A.filterMap λi=>t.bj[i]?)):=by
  intro A hA hAr
  have key:=gm (l:=A) (step:=mR n t (qu t (kJ t d) d,uV n t d) (A.map λ(i:Nat)=>i)) (λ i s=>(i,s)) (λ i s=>match t.bj[i]? with
   |some r=>addN s r.name (KM n t (kJ t d) d r)
   |none=>s) (λ s=>s) (λ i s=>s.length<=i) (λ i hi s hs=>by have hr:=hAr _ (getElem_mem hi);have hlm:(A.map λ(i:Nat)=>(i:Int)).length=A.length:=(by simp);have hg:cd (A.map λ(i:Nat)=>(i:Int)) ((0:Nat)+i)=some ((A[i]:Nat):Int):=(by rw[bJ (by omega)];simp);have hrr:=ht.rule _ (getElem_mem hr);have hb:=Zq (n:=n) (t:=t) (lot:=kJ t d) (d:=d) ht hw.1 hd (hv h0) hrr.2 hn;have e:=dD hr;simp only[mR,hlm,cu hi,aj,bE hi,hg,ai,bf hr,hb,aI,adB (n:=n) (name:=t.bj[A[i]].name) (bad:=KM n t (kJ t d) d t.bj[A[i]]) (ab:=s) (by omega) (by omega),aQ i,e];exact⟨trivial,Nat.le_trans (VP _ _ _) (by omega)⟩) (λ s _=>by have hlm:(A.map λ(i:Nat)=>i).length=A.length:=(by simp);simp[mR]) n (by omega) [] (aB _)
  rw[k8]at key;rw[key];congr 1;unfold EB;generalize []=s0;clear key hA
  induction A generalizing s0 with
  |nil=>rfl
  |cons a A ih=>
   have ha:=hAr a (by simp);rw[foldl_cons,List.filterMap_cons];simp only[dD ha];rw[foldl_cons];exact ih (λ i hi=>hAr i (by simp[hi])) _
 have hlo:=hloop (O5 t.bj (oo t (kJ t d)) day) hal (λ i hi=>by have:=(mem_filter.1 hi).1;simpa using this);rw[hpick]at hlo;have hrl:(EB n t (kJ t d) d (applied t (kJ t d) day)).length<=100:=by have h1:=AU (KM n t (kJ t d) d) (applied t (kJ t d) day) [];have h2:(applied t (kJ t d) day).length<=100:=Nat.le_trans (length_filter_le _ _) ht.rules;unfold EB;simp at h1;omega
 have hany:gV n (qu t (kJ t d) d) (λ (y1:aA×Unit)=>mQ n y1.1 t d)=some (VQ t d):=by
  have hs:∀v,mQ n v t d=some (!QJ t.b8 d.lot (mh v)):=by intro v;have hl1:(mh v).length=1:=rfl;have h:=XL (n:=n) (l:=t.b8) (lot:=d.lot) (s:=mh v) ht.vx.1 ht.vx.2 (by simp[mh]) (by omega);simp[mQ,ady,h]
  simp[gV,show(qu t (kJ t d) d).cp=ig d from rfl];rw[fZ (λ v=>!QJ t.b8 d.lot (mh v)) (λ v _=>hs v) (by omega) (by omega)];rfl
 have hsc:qu t (fq t.land d.lot).1 d=qu t (kJ t d) d:=rfl;simp only[AG,Sx,aj,ax,hsc,show(qu t (kJ t d) d).zones=oo t (kJ t d)from rfl,hA,ai,length_nil,aI,hlo,hany,adB (n:=n) (name:=⟨#[101,97,115,101,109,101,110,116]⟩) (bad:=VQ t d) (ab:=EB n t (kJ t d) d (applied t (kJ t d) day)) (by omega) (by omega),fF];rw[h0];rfl;have AG:(uV n t d==0)=false:=by simpa using h0
 have Sx:(uV n t d !=0)=true:=by simpa using h0
 simp[AG,Sx]
theorem aiD{t:dm}{d:aJ}{r:aL}(ht:M6 t)(hd:O7 d)(hr:(toE (ia r)).wt<=4000000)(hn:O8 n):qp n t d r=some ((uV n t d==0)&&KM n t (kJ t d) d r):=by
 obtain⟨hk,hv⟩:=look_eq (n:=n) ht hd hn;have hw:=Cu ht.lots d.lot;simp[qp,hk];by_cases h0:uV n t d=0;have AG:(uV n t d==0)=true:=by simp[h0]
 have hb:=Zq (n:=n) (t:=t) (lot:=kJ t d) (d:=d) (r:=r) ht hw.1 hd (hv h0) hr hn;have hsc:qu t (fq t.land d.lot).1 d=qu t (kJ t d) d:=rfl;simp[AG,hsc,hb];have AG:(uV n t d==0)=false:=by simpa using h0
 simp[AG]
theorem aiE{t:dm}{d:aJ} day (ht:M6 t) (hd:O7 d) (hn:O8 n):vz n t d day=some ((uV n t d==0)&&decide (oG n t d day=[])):=by
 simp[vz,Cz day ht hd hn];cases (uV n t d==0)with
 |false=>rfl
 |true=>
  simp;cases oG n t d day with
  |nil=>rfl
  |cons x l=>
   have:(((x::l).length:Nat):Int)≠0:=(by simp;omega);rw[beq_eq_false_iff_ne.2 this];simp
end Go.Proofs
